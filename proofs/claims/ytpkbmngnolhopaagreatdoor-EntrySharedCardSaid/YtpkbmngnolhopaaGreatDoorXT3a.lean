/- Plain law: names and marks, in the program and in the reference. Plain law: days, licences, ages. -/
import Derived.Test.YtpkbmngnolhopaaGreatDoorXTeF
import Derived.Test.YtpkbmngnolhopaaGreatDoorXSxQh
set_option maxRecDepth 100000
set_option linter.unusedVariables false
set_option linter.unusedSimpArgs false
namespace Go.Proofs.Tryz
open Go Go.Sx
def Qn:List Int→Int
 |[]=>0
 |x::l=>if x=0 then Qn l else x
theorem Qpo{l:List Int}{k:Nat}(hk:k<l.length):Qn (l.drop k)=if l.getD k 0=0 then Qn (l.drop (k+1))else l.getD k 0:=by rw[List.drop_eq_getElem_cons hk];simp only[Qn,List.getD,List.getElem?_eq_getElem hk,Option.getD_some]
theorem l84{F:Nat}{l:List Int}(hF:l.length<F)(hl:l.length≤1000):Zn F l=some (Qn l):=by
 unfold Zn;obtain⟨b,h1,h2⟩:=Qgw (step:=fun(v13:Int)=>bif Decidable.decide (v13<(↑(List.length l):Int))then(gd (Decidable.decide ((0:Int)≤v13)) (gd (Decidable.decide (v13<(↑(List.length l):Int))) (gd (Decidable.decide (Int.toNat v13<List.length l)) (bif !Decidable.decide (List.getD l (Int.toNat v13) (0:Int)=(0:Int))then(some (Sum.inr (Sum.inl (List.getD l (Int.toNat v13) (0:Int)))))else(some (Sum.inl (Go.Sx.w64 (v13+(1:Int)))))))))else(some (Sum.inr (Sum.inr Unit.unit))))
  (fun v=>0≤v∧v≤l.length∧Qn l=Qn (l.drop v.toNat)) (fun v=>l.length-v.toNat) (fun b=>Sum.elim (fun(v11:Int)=>some (v11)) (fun(v12:Unit)=>some ((0:Int))) b=some (Qn l))
  (fun v ⟨h0,h1,h2⟩=>by
   by_cases hv:v<l.length
   ·have hk:v.toNat<l.length:=by omega
    simp only[h0,hv,hk,decide_true,cond_true,Zw];rw[Qpo hk]at h2;by_cases hz:l.getD v.toNat 0=0
    ·left;refine⟨v+1,?_,⟨by omega,by omega,?_⟩,by omega⟩
     ·simp only[hz,decide_true,Bool.not_true,cond_false];rw[Zb (by omega) (by omega)]
     ·rw[if_pos hz]at h2;rw[h2,show(v+1).toNat=v.toNat+1 by omega]
    ·right;refine⟨.inl (l.getD v.toNat 0),by simp only[hz,decide_false,Bool.not_false,cond_true],?_⟩;rw[if_neg hz]at h2;simp[h2]
   ·right;refine⟨.inr (),by simp only[hv,decide_false,cond_false],?_⟩;have:v.toNat=l.length:=by omega
    rw[this,List.drop_length]at h2;simp[h2,Qn])
  F 0 ⟨by omega,by omega,by simp⟩ (by simpa using hF)
 rw[h1];exact h2
theorem Qp6{F:Nat}{l:List Int}(hF:l.length<F)(hl:l.length≤1000):Jg F l=some (Qn l):=by
 unfold Jg;obtain⟨b,h1,h2⟩:=Qgw (step:=fun(v13:Int)=>bif Decidable.decide (v13<(↑(List.length l):Int))then(gd (Decidable.decide ((0:Int)≤v13)) (gd (Decidable.decide (v13<(↑(List.length l):Int))) (gd (Decidable.decide (Int.toNat v13<List.length l)) (bif !Decidable.decide (List.getD l (Int.toNat v13) (0:Int)=(0:Int))then(some (Sum.inr (Sum.inl (List.getD l (Int.toNat v13) (0:Int)))))else(some (Sum.inl (Go.Sx.w64 (v13+(1:Int)))))))))else(some (Sum.inr (Sum.inr Unit.unit))))
  (fun v=>0≤v∧v≤l.length∧Qn l=Qn (l.drop v.toNat)) (fun v=>l.length-v.toNat) (fun b=>Sum.elim (fun(v11:Int)=>some (v11)) (fun(v12:Unit)=>some ((0:Int))) b=some (Qn l))
  (fun v ⟨h0,h1,h2⟩=>by
   by_cases hv:v<l.length
   ·have hk:v.toNat<l.length:=by omega
    simp only[h0,hv,hk,decide_true,cond_true,Zw];rw[Qpo hk]at h2;by_cases hz:l.getD v.toNat 0=0
    ·left;refine⟨v+1,?_,⟨by omega,by omega,?_⟩,by omega⟩
     ·simp only[hz,decide_true,Bool.not_true,cond_false];rw[Zb (by omega) (by omega)]
     ·rw[if_pos hz]at h2;rw[h2,show(v+1).toNat=v.toNat+1 by omega]
    ·right;refine⟨.inl (l.getD v.toNat 0),by simp only[hz,decide_false,Bool.not_false,cond_true],?_⟩;rw[if_neg hz]at h2;simp[h2]
   ·right;refine⟨.inr (),by simp only[hv,decide_false,cond_false],?_⟩;have:v.toNat=l.length:=by omega
    rw[this,List.drop_length]at h2;simp[h2,Qn])
  F 0 ⟨by omega,by omega,by simp⟩ (by simpa using hF)
 rw[h1];exact h2
def okB(i:Nat)(b:Int):Bool:=(decide (97≤b)&&decide (b≤122))||(decide (65≤b)&&decide (b≤90))||(!decide (i=0)&&(decide (b=95)||(decide (48≤b)&&decide (b≤57))))
def Qoh(s:ByteArray):Bool:=(List.range s.size).all fun i=>okB i ((s.get! i).toNat:Int)
def Y5(s:ByteArray):Bool:=decide (1≤s.size∧s.size≤24)&&Qoh s
theorem Qy2(i:Nat)(b:Int):okB i b=((decide (97≤b)&&decide (b≤122))||(decide (65≤b)&&decide (b≤90))||(!decide ((i:Int)=0)&&(decide (b=95)||(decide (48≤b)&&decide (b≤57))))):=by simp[okB]
theorem Qdx{n i x:Nat}(h:(List.range n)[i]? =some x):x=i:=by
 by_cases hi:i<n
 ·rw[List.getElem?_range hi]at h;exact(Option.some.inj h).symm
 ·rw[List.getElem?_eq_none (by simp;omega)]at h;cases h
theorem l67{F:Nat}(hF:400≤F){s:ByteArray}:c67 F s=some (Y5 s):=by
 unfold c67 Y5;by_cases h:1≤s.size∧s.size≤24
 ·have e:(bif decide ((s.size:Int)<1)then some true else some (decide ((24:Int)<s.size)))=some false:=by
   have h1:¬(s.size:Int)<1:=by omega
   have h2:¬(24:Int)<s.size:=by omega
   simp[h1,h2]
  rw[e];simp only[Option.bind_some,cond_false,h,and_self,decide_true,Bool.true_and];refine Xz (List.range s.size) (fun(_:Unit) i=>(i:Int)) (fun x _=>if(!okB x ((s.get! x).toNat:Int))=true then .inr (.inl false)else .inl ()) (fun _=>.inr ()) (fun _ _=>True) () (by simp;omega) rfl trivial ?_ ?_ ?_
  ·intro i x _ hi hx _;obtain rfl:=Qdx hx;simp only[List.length_range]at hi;refine⟨?_,fun _ _=>trivial⟩;simp(disch:=omega)only[Ze,Zj,Int.toNat_natCast,Zb,Zqe];rw[Qy2];cases decide ((97:Int)≤((s.get! x).toNat:Int))<;>cases decide (((s.get! x).toNat:Int)≤122)<;>cases decide ((65:Int)≤((s.get! x).toNat:Int))<;>cases decide (((s.get! x).toNat:Int)≤90)<;>
    cases decide ((x:Int)=0)<;>cases decide (((s.get! x).toNat:Int)=95)<;>cases decide ((48:Int)≤((s.get! x).toNat:Int))<;>cases decide (((s.get! x).toNat:Int)≤57)<;>rfl
  ·intro _ _;simp(disch:=omega)only[Zd,List.length_range]
  ·rw[Qed (fun x=>!okB x ((s.get! x).toNat:Int))];unfold Qoh;rw[List.all_eq_not_any_not];cases(List.range s.size).any fun x=>!okB x ((s.get! x).toNat:Int)<;>simp
 ·have e:(bif decide ((s.size:Int)<1)then some true else some (decide ((24:Int)<s.size)))=some true:=by
   by_cases h1:(s.size:Int)<1
   ·simp[h1]
   ·have h2:(24:Int)<s.size:=by omega
    simp[h1,h2]
  rw[e];simp[h]
theorem l98{F:Nat}(hF:400≤F){s:ByteArray}(hs:s.size≤300):c98 F s=some (Y5 s):=by
 unfold c98;refine Zx9 (Qqc (List.range s.size) (fun x (_:Unit)=>if(!okB x ((s.get! x).toNat:Int))=true then .inr (.inl false)else .inl ()) (fun _=>(.inr ():Bool ⊕ Unit)) (fun i _ t=>t=(s,i))
  (fun(a:Bool ⊕ Unit) (b:(ByteArray×Nat)×Bool ⊕ ByteArray×Nat)=>a=b.elim (fun v=>.inl v.2) (fun _=>.inr ())) () (by simp;omega) rfl ?_ ?_ ?_)
 ·intro i x _ t hi hx ht;obtain rfl:=Qdx hx;subst ht;simp only[List.length_range]at hi;simp(disch:=omega)only[Ze];rw[Qy2];by_cases hb:(s.get! x).toNat<128
  ·rw[Zjm hb];simp only[];by_cases h1:(97:Int)≤((s.get! x).toNat:Int)<;>by_cases h2:((s.get! x).toNat:Int)≤122<;>by_cases h3:(65:Int)≤((s.get! x).toNat:Int)<;>by_cases h4:((s.get! x).toNat:Int)≤90<;>
    by_cases h5:(x:Int)=0<;>by_cases h6:((s.get! x).toNat:Int)=95<;>by_cases h7:((s.get! x).toNat:Int)<48<;>by_cases h8:(57:Int)<((s.get! x).toNat:Int)<;>
    simp only[h1,h2,h3,h4,h5,h6,h7,h8,Int.not_lt.symm,decide_true,decide_false,cond_true,cond_false,Bool.not_true,Bool.not_false,Bool.and_true,Bool.and_false,Bool.true_and,Bool.false_and,Bool.or_true,Bool.or_false,Bool.true_or,Bool.false_or]<;>
    exact⟨_,rfl,rfl⟩
  ·have h2:=Zsi hb;have a1:(97:Int)≤((Go.Utf8.decode s x).1:Int):=by omega
   have a2:¬((Go.Utf8.decode s x).1:Int)≤122:=by omega
   have a3:(65:Int)≤((Go.Utf8.decode s x).1:Int):=by omega
   have a4:¬((Go.Utf8.decode s x).1:Int)≤90:=by omega
   have a5:¬((Go.Utf8.decode s x).1:Int)=95:=by omega
   have a6:¬((Go.Utf8.decode s x).1:Int)<48:=by omega
   have a7:(57:Int)<((Go.Utf8.decode s x).1:Int):=by omega
   have b2:¬((s.get! x).toNat:Int)≤122:=by omega
   have b4:¬((s.get! x).toNat:Int)≤90:=by omega
   have b5:¬((s.get! x).toNat:Int)=95:=by omega
   have b6:¬((s.get! x).toNat:Int)≤57:=by omega
   simp only[a1,a2,a3,a4,a5,a6,a7,b2,b4,b5,b6,decide_true,decide_false,cond_true,cond_false,Bool.not_true,Bool.not_false,Bool.and_true,Bool.and_false,Bool.or_false];by_cases h5:(x:Int)=0<;>simp only[h5,decide_true,decide_false,cond_true,cond_false,Bool.not_true,Bool.not_false,Bool.and_true,Bool.and_false,if_true]<;>exact⟨_,rfl,rfl⟩
 ·intro _ t ht;subst ht;simp(disch:=omega)only[Zd,List.length_range];exact⟨_,rfl,rfl⟩
 ·intro b hb;rw[Qed (fun x=>!okB x ((s.get! x).toNat:Int))]at hb;have e:(bif decide (0<(s.size:Int))then some (decide ((s.size:Int)≤24))else some false)=some (decide (1≤s.size∧s.size≤24)):=by
   by_cases h1:0<(s.size:Int)
   ·have h2:1≤s.size:=by omega
    by_cases h3:s.size≤24
    ·have:(s.size:Int)≤24:=by omega
     simp only[h1,h2,h3,this,decide_true,cond_true,and_self]
    ·have:¬(s.size:Int)≤24:=by omega
     simp only[h1,h2,h3,this,decide_true,cond_true,and_false]
   ·have h2:¬ 1≤s.size:=by omega
    simp only[h1,h2,decide_false,cond_false,false_and]
  unfold Y5 Qoh;rw[List.all_eq_not_any_not];cases hany:(List.range s.size).any fun x=>!okB x ((s.get! x).toNat:Int)with
  |true=>
   rw[hany]at hb;cases b with
   |inl v=>simp only[if_true,Sum.elim_inl,Sum.inl.injEq]at hb;exact⟨_,rfl,by rw[←hb];simp⟩
   |inr v=>simp at hb
  |false=>
   rw[hany]at hb;cases b with
   |inl v=>simp at hb
   |inr v=>exact⟨_,by simp only[Sum.elim_inr,e];rfl,by simp⟩
theorem Qyc{F:Nat}(hF:400≤F){l:List ByteArray}{x:ByteArray}(hl:l.length≤300):∃v,Qle F (l,x)=some v∧decide (0≤v)=l.any fun y=>Qf x y:=by
 unfold Qle;refine Qqc l (fun y (_:Unit)=>if Qf x y=true then .inr true else .inl ()) (fun _=>false) (fun i _ t=>t=(i:Int)) (fun(a:Bool) (b:Int ⊕ Unit)=>decide (0≤b.elim (fun v=>v) (fun _=>-1))=a) () (by omega) rfl ?_ ?_ ?_
 ·intro i y _ t hi hy ht;subst ht;simp(disch:=omega)only[Ze,Zj,Int.toNat_natCast,getD_some hy,Zb];cases Qf x y with
  |true=>exact⟨_,rfl,by simp[Qdh]⟩
  |false=>exact⟨_,rfl,by simp[Qdh]⟩
 ·intro _ t ht;subst ht;simp(disch:=omega)only[Zd];exact⟨_,rfl,by simp⟩
 ·intro b hb;rw[Qed]at hb;refine⟨b.elim (fun v=>v) (fun _=>-1),by cases b<;>rfl,?_⟩;rw[hb];cases l.any fun y=>Qf x y<;>rfl
def Qas(r:ByteArray):Bool:=Qf r {data:=List.toArray ((68:UInt8)::(78:UInt8)::(83:UInt8)::Qb UInt8)}||(Qf r {data:=List.toArray ((68:UInt8)::(78:UInt8)::(70:UInt8)::Qb UInt8)}||(Qf r {data:=List.toArray ((68:UInt8)::(81:UInt8)::Qb UInt8)}||Qf r {data:=List.toArray ((78:UInt8)::(77:UInt8)::Qb UInt8)}))
theorem Zto(F:Nat)(r:ByteArray):Qlx F r=some (Qas r):=by
 unfold Qlx Qas;cases Qf r {data:=List.toArray ((68:UInt8)::(78:UInt8)::(83:UInt8)::Qb UInt8)}<;>cases Qf r {data:=List.toArray ((68:UInt8)::(78:UInt8)::(70:UInt8)::Qb UInt8)}<;>
  cases Qf r {data:=List.toArray ((68:UInt8)::(81:UInt8)::Qb UInt8)}<;>cases Qf r {data:=List.toArray ((78:UInt8)::(77:UInt8)::Qb UInt8)}<;>rfl
theorem Zft{F:Nat}(hF:400≤F)(r:ByteArray):Qju F r=some (Qas r):=by unfold Qju Wq;obtain⟨v,h1,h2⟩:=Qyc hF (l:={data:=List.toArray ((68:UInt8)::(78:UInt8)::(83:UInt8)::Qb UInt8)}::{data:=List.toArray ((68:UInt8)::(78:UInt8)::(70:UInt8)::Qb UInt8)}::{data:=List.toArray ((68:UInt8)::(81:UInt8)::Qb UInt8)}::{data:=List.toArray ((78:UInt8)::(77:UInt8)::Qb UInt8)}::Qb ByteArray) (x:=r) (by simp[Qb]);simp only[h1,Option.bind_some,h2];simp[Qb,Qas]
theorem Qwc(F:Nat)(b:Bool)(e:Int):Y9 F (b,e)=some (if b then e else 0):=by unfold Y9;cases b<;>rfl
theorem Zi6(F:Nat)(n lo hi:Int):Vt F (n,lo,hi)=some (decide (n<lo∨hi<n)):=by unfold Vt;by_cases h:n<lo<;>by_cases k:hi<n<;>simp[h,k]
def kT:ByteArray:={data:=List.toArray ((116:UInt8)::(105:UInt8)::(109:UInt8)::(101:UInt8)::Qb UInt8)}
def kN:ByteArray:={data:=List.toArray ((110:UInt8)::(111:UInt8)::(110:UInt8)::(101:UInt8)::Qb UInt8)}
def kL:ByteArray:={data:=List.toArray ((108:UInt8)::(101:UInt8)::(110:UInt8)::(103:UInt8)::(116:UInt8)::(104:UInt8)::Qb UInt8)}
def kP:ByteArray:={data:=List.toArray ((112:UInt8)::(111:UInt8)::(105:UInt8)::(110:UInt8)::(116:UInt8)::(115:UInt8)::Qb UInt8)}
def k0:ByteArray:={data:=List.toArray (Qb UInt8)}
def Jh(k:ByteArray)(v:Int)(r:ByteArray):Int:=
 if Qf k kN=true then(if Qas r=false then 1 else if v≠0 then 3 else 0)
 else if Qf k kT=true then(if Qf r k0=false then 1 else if v<1∨863999999<v then 3 else 0)
 else if Qf k kL=true then(if Qf r k0=false then 1 else if v<0∨999999<v then 3 else 0)
 else if Qf k kP=true then(if Qf r k0=false then 1 else if v<0∨99999<v then 3 else 0)
 else 13
theorem Qy6(F:Nat)(k:ByteArray)(v:Int)(r:ByteArray):Qe6 F (k,v,r)=some (Jh k v r):=by
 unfold Qe6 Qp0 Qov Jh;simp only[Zto,Option.bind_some];change (bif Qf k kN then _ else _)=_;cases hN:Qf k kN with
 |true=>
  cases Qas r
  ·simp
  ·by_cases h:v=0<;>simp[h]
 |false=>
  change Option.bind (bif Qf k kT then some (Qf k kT)else(Option.bind (bif Qf k kL then some (Qf k kL)else some (Qf k kP)) fun(v23:Bool)=>some v23)) (fun v19=>bif v19 then(bif !Qf r k0 then some 1 else(Option.bind (Option.bind (bif Qf k kT then some 1 else some 0) fun v21=>bif decide (v<v21)then some true else(Option.bind (bif Qf k kT then some 863999999 else(bif Qf k kL then some 999999 else some 99999)) fun(v22:Int)=>some (decide (v22<v)))) fun v20=>bif v20 then some 3 else some 0))else some 13)=_;have key:∀lo hi:Int,(Option.bind (bif decide (v<lo)then some true else some (decide (hi<v))) fun v20=>bif v20 then some (3:Int)else some 0)=some (if v<lo∨hi<v then 3 else 0):=by intro lo hi;by_cases h:v<lo<;>by_cases h':hi<v<;>simp[h,h']
  cases hT:Qf k kT<;>cases hL:Qf k kL<;>cases hP:Qf k kP<;>cases h0:Qf r k0<;>simp only[cond_true,cond_false,Option.bind_some,Bool.not_true,Bool.not_false,key]<;>simp
theorem l99{F:Nat}(hF:400≤F)(k:ByteArray)(v:Int)(r:ByteArray):c99 F (k,v,r)=some (Jh k v r):=by
 unfold c99;simp only[Zft hF,Qwc,Zi6,Option.bind_some];rw[Qp6 (l:=(if(!Qas r)=true then 1 else 0)::(if(!decide (v=0))=true then 3 else 0)::Qb Int) (by simp[Qb];omega) (by simp[Qb])];have q:∀(a b c:Int),Jg F (a::b::c::Qb Int)=some (if a≠0 then a else if b≠0 then b else c):=by intro a b c;rw[Qp6 (by simp[Qb];omega) (by simp[Qb])];by_cases ha:a=0<;>by_cases hb:b=0<;>by_cases hc:c=0<;>simp[Qn,Qb,ha,hb,hc]
 simp only[q];change (bif Qf k kN then _ else Option.bind (bif Qf k kT then _ else(bif Qf k kL then _ else(bif Qf k kP then _ else _))) _)=_;unfold Jh;cases hN:Qf k kN with
 |true=>simp only[cond_true,if_true];cases Qas r<;>by_cases h:v=0<;>simp[h,Qn,Qb]
 |false=>
  simp only[cond_false,Bool.false_eq_true,if_false];have g:∀x:Int,gd (Qx.eqv (Qe.val (Ty.int Go.IntKind.i64)::Qb Qe) x x) (some x)=some x:=by
   intro x;have:Qx.eqv (Qe.val (Ty.int Go.IntKind.i64)::Qb Qe) x x=true:=by change Vh x x=true;simp[Vh]
   rw[this];rfl
  have e0:Qf r {data:=List.toArray (Qb UInt8)}=Qf r k0:=rfl;have eT:Qf k {data:=List.toArray ((116:UInt8)::(105:UInt8)::(109:UInt8)::(101:UInt8)::Qb UInt8)}=Qf k kT:=rfl;have eL:Qf k {data:=List.toArray ((108:UInt8)::(101:UInt8)::(110:UInt8)::(103:UInt8)::(116:UInt8)::(104:UInt8)::Qb UInt8)}=Qf k kL:=rfl;have eP:Qf k {data:=List.toArray ((112:UInt8)::(111:UInt8)::(105:UInt8)::(110:UInt8)::(116:UInt8)::(115:UInt8)::Qb UInt8)}=Qf k kP:=rfl;simp only[e0,eT,eL,eP];cases hT:Qf k kT<;>cases hL:Qf k kL<;>cases hP:Qf k kP<;>cases h0:Qf r k0<;>simp only[cond_true,cond_false,Option.bind_some,g]<;>simp
theorem Qri(x:Int):Qx.eqv (Qe.val (Ty.int IntKind.i64)::Qb Qe) x x=true:=Qx.eqv_rf (Qe.val (Ty.int IntKind.i64)::Qb Qe) x
theorem Qnc(n:Nat)(x:Int):Zz.eqv (Ql.slot n (Qe.val (Ty.int IntKind.i64))::Qb Ql) x x=true:=Zz.eqv_rf (Ql.slot n (Qe.val (Ty.int IntKind.i64))::Qb Ql) x
theorem Qtb{α:Type}(e:α→Int):∀(l:List α),goL (fun x (_:Unit)=>if e x=0 then(.inl ():Unit ⊕ (Int ⊕ Unit))else .inr (.inl (e x))) (fun _=>.inr ()) l ()=if Qn (l.map e)=0 then .inr ()else .inl (Qn (l.map e))
 |[]=>rfl
 |x::l=>by
  rw[Qfh,List.map_cons];simp only[Qn];by_cases h:e x=0
  ·simp only[h,if_true];exact Qtb e l
  ·simp only[h,if_false]
theorem Qr3{α γ:Type}{step:Int→Option (Int ⊕ (Int ⊕ Unit))}{F:Nat}{k:Int ⊕ Unit→Option γ}{r:Option γ}(l:List α)(e:α→Int)(hF:l.length<F)
  (hstep:∀(i:Nat) x,i<l.length→l[i]? =some x→step (i:Int)=some (if e x=0 then .inl ((i:Int)+1)else .inr (.inl (e x))))
  (hend:step (l.length:Int)=some (.inr (.inr ())))
  (hk:k (if Qn (l.map e)=0 then .inr ()else .inl (Qn (l.map e)))=r):Option.bind (Qq step F 0) k=r:=by
 refine Xz l (fun(_:Unit) i=>(i:Int)) (fun x (_:Unit)=>if e x=0 then .inl ()else .inr (.inl (e x))) (fun _=>.inr ()) (fun _ _=>True) () hF rfl trivial ?_ ?_ ?_
 ·intro i x _ hi hx _;refine⟨?_,fun _ _=>trivial⟩;rw[hstep i x hi hx];by_cases h:e x=0
  ·simp only[h,if_true];rfl
  ·simp only[h,if_false]
 ·intro _ _;exact hend
 ·rw[Qtb];exact hk
def Z0(n:Int):Bool:=decide (n<0)||decide (99999<n)
theorem Zf3(F:Nat)(n:Int):Qh6 F n=some (Z0 n):=by unfold Qh6 Z0;by_cases h:n<0<;>simp[h]
theorem l94(F:Nat)(n:Int):c94 F (n,99999)=some (Z0 n):=by unfold c94 Z0;by_cases h:n<0<;>simp[h]
theorem Zk8{F:Nat}{l:List Int}(hF:l.length<F)(hl:l.length≤1000):∃v,Qib F l=some v∧decide (0≤v)=l.any Z0:=by
 unfold Qib;refine Qqc l (fun y (_:Unit)=>if Z0 y=true then .inr true else .inl ()) (fun _=>false) (fun i _ t=>t=(i:Int)) (fun(a:Bool) (b:Int ⊕ Unit)=>decide (0≤b.elim (fun v=>v) (fun _=>-1))=a) () (by omega) rfl ?_ ?_ ?_
 ·intro i y _ t hi hy ht;subst ht;simp(disch:=omega)only[Ze,Zj,Int.toNat_natCast,getD_some hy,Zb,Zf3,Option.bind_some];cases Z0 y with
  |true=>exact⟨_,rfl,by simp[Qdh]⟩
  |false=>exact⟨_,rfl,by simp[Qdh]⟩
 ·intro _ t ht;subst ht;simp(disch:=omega)only[Zd];exact⟨_,rfl,by simp⟩
 ·intro b hb;rw[Qed]at hb;refine⟨b.elim (fun v=>v) (fun _=>-1),by cases b<;>rfl,?_⟩;rw[hb];cases l.any Z0<;>rfl
theorem l86(F:Nat)(b:Bool)(e:Int):Q1 F (b,e)=some (if b=true then e else 0):=by unfold Q1;cases b<;>rfl
theorem l85{F:Nat}{l:List Int}(hF:l.length<F)(hl:l.length≤1000):c85 F l=some (if l.any Z0=true then 3 else 0):=by unfold c85 Qsi;obtain⟨v,h1,h2⟩:=Zk8 hF hl;simp only[h1,h2,Option.bind_some,l86]
theorem l92{F:Nat}(hF:400≤F){s:ByteArray}(hs:s.size≤300):c92 F s=some (if Y5 s=true then 0 else 8):=by unfold c92;simp only[l98 hF hs,Option.bind_some,l86];cases Y5 s<;>rfl
def Qd9(f t:Int):Int:=if(Z0 f||Z0 t)=true then 3 else if t<f then 11 else 0
theorem Zlm{F:Nat}(hF:400≤F)(n:ByteArray)(f t:Int):Qha F (n,f,t)=some (Qd9 f t):=by unfold Qha Qd9;rw[l85 (by simp[Qb];omega) (by simp[Qb])];simp only[Option.bind_some,l86];rw[l84 (by simp[Qb];omega) (by simp[Qb])];simp only[Option.bind_some,Qb,List.any_cons,List.any_nil,Bool.or_false,Qn,decide_eq_true_eq];cases Z0 f||Z0 t<;>by_cases h:t<f<;>simp[h]
end Go.Proofs.Tryz
