/- Plain law: names and marks, in the program and in the reference. Plain law: days, licences, ages. -/
import Derived.Test.YtpkbmngnolhopaaGreatDoorXTeF
import Derived.Test.YtpkbmngnolhopaaGreatDoorXSxQi
set_option maxRecDepth 100000
set_option linter.unusedVariables false
set_option linter.unusedSimpArgs false
namespace Go.Proofs.Tryz
open Go Go.Sx
def Qo:List Int→Int
 |[]=>0
 |x::l=>if x=0 then Qo l else x
theorem Qrc{l:List Int}{k:Nat}(hk:k<l.length):Qo (l.drop k)=if l.getD k 0=0 then Qo (l.drop (k+1))else l.getD k 0:=by rw[List.drop_eq_getElem_cons hk];simp only[Qo,List.getD,List.getElem?_eq_getElem hk,Option.getD_some]
theorem l84{F:Nat}{l:List Int}(hF:l.length<F)(hl:l.length≤1000):Zm F l=some (Qo l):=by
 unfold Zm;obtain⟨b,h1,h2⟩:=Qgh (step:=fun(v13:Int)=>bif Decidable.decide (v13<(↑(List.length l):Int))then(gd (Decidable.decide ((0:Int)≤v13)) (gd (Decidable.decide (v13<(↑(List.length l):Int))) (gd (Decidable.decide (Int.toNat v13<List.length l)) (bif !Decidable.decide (List.getD l (Int.toNat v13) (0:Int)=(0:Int))then(some (Sum.inr (Sum.inl (List.getD l (Int.toNat v13) (0:Int)))))else(some (Sum.inl (Go.Sx.w64 (v13+(1:Int)))))))))else(some (Sum.inr (Sum.inr Unit.unit))))
  (fun v=>0≤v∧v≤l.length∧Qo l=Qo (l.drop v.toNat)) (fun v=>l.length-v.toNat) (fun b=>Sum.elim (fun(v11:Int)=>some (v11)) (fun(v12:Unit)=>some ((0:Int))) b=some (Qo l))
  (fun v ⟨h0,h1,h2⟩=>by
   by_cases hv:v<l.length
   ·have hk:v.toNat<l.length:=by omega
    simp only[h0,hv,hk,decide_true,cond_true,Z2];rw[Qrc hk]at h2;by_cases hz:l.getD v.toNat 0=0
    ·left;refine⟨v+1,?_,⟨by omega,by omega,?_⟩,by omega⟩
     ·simp only[hz,decide_true,Bool.not_true,cond_false];rw[Zh (by omega) (by omega)]
     ·rw[if_pos hz]at h2;rw[h2,show(v+1).toNat=v.toNat+1 by omega]
    ·right;refine⟨.inl (l.getD v.toNat 0),by simp only[hz,decide_false,Bool.not_false,cond_true],?_⟩;rw[if_neg hz]at h2;simp[h2]
   ·right;refine⟨.inr (),by simp only[hv,decide_false,cond_false],?_⟩;have:v.toNat=l.length:=by omega
    rw[this,List.drop_length]at h2;simp[h2,Qo])
  F 0 ⟨by omega,by omega,by simp⟩ (by simpa using hF)
 rw[h1];exact h2
theorem Qo9{F:Nat}{l:List Int}(hF:l.length<F)(hl:l.length≤1000):Jm F l=some (Qo l):=by
 unfold Jm;obtain⟨b,h1,h2⟩:=Qgh (step:=fun(v13:Int)=>bif Decidable.decide (v13<(↑(List.length l):Int))then(gd (Decidable.decide ((0:Int)≤v13)) (gd (Decidable.decide (v13<(↑(List.length l):Int))) (gd (Decidable.decide (Int.toNat v13<List.length l)) (bif !Decidable.decide (List.getD l (Int.toNat v13) (0:Int)=(0:Int))then(some (Sum.inr (Sum.inl (List.getD l (Int.toNat v13) (0:Int)))))else(some (Sum.inl (Go.Sx.w64 (v13+(1:Int)))))))))else(some (Sum.inr (Sum.inr Unit.unit))))
  (fun v=>0≤v∧v≤l.length∧Qo l=Qo (l.drop v.toNat)) (fun v=>l.length-v.toNat) (fun b=>Sum.elim (fun(v11:Int)=>some (v11)) (fun(v12:Unit)=>some ((0:Int))) b=some (Qo l))
  (fun v ⟨h0,h1,h2⟩=>by
   by_cases hv:v<l.length
   ·have hk:v.toNat<l.length:=by omega
    simp only[h0,hv,hk,decide_true,cond_true,Z2];rw[Qrc hk]at h2;by_cases hz:l.getD v.toNat 0=0
    ·left;refine⟨v+1,?_,⟨by omega,by omega,?_⟩,by omega⟩
     ·simp only[hz,decide_true,Bool.not_true,cond_false];rw[Zh (by omega) (by omega)]
     ·rw[if_pos hz]at h2;rw[h2,show(v+1).toNat=v.toNat+1 by omega]
    ·right;refine⟨.inl (l.getD v.toNat 0),by simp only[hz,decide_false,Bool.not_false,cond_true],?_⟩;rw[if_neg hz]at h2;simp[h2]
   ·right;refine⟨.inr (),by simp only[hv,decide_false,cond_false],?_⟩;have:v.toNat=l.length:=by omega
    rw[this,List.drop_length]at h2;simp[h2,Qo])
  F 0 ⟨by omega,by omega,by simp⟩ (by simpa using hF)
 rw[h1];exact h2
def okB(i:Nat)(b:Int):Bool:=(decide (97≤b)&&decide (b≤122))||(decide (65≤b)&&decide (b≤90))||(!decide (i=0)&&(decide (b=95)||(decide (48≤b)&&decide (b≤57))))
def Qqt(s:ByteArray):Bool:=(List.range s.size).all fun i=>okB i ((s.get! i).toNat:Int)
def Y9(s:ByteArray):Bool:=decide (1≤s.size∧s.size≤24)&&Qqt s
theorem Zay(i:Nat)(b:Int):okB i b=((decide (97≤b)&&decide (b≤122))||(decide (65≤b)&&decide (b≤90))||(!decide ((i:Int)=0)&&(decide (b=95)||(decide (48≤b)&&decide (b≤57))))):=by simp[okB]
theorem Qf4{n i x:Nat}(h:(List.range n)[i]? =some x):x=i:=by
 by_cases hi:i<n
 ·rw[List.getElem?_range hi]at h;exact(Option.some.inj h).symm
 ·rw[List.getElem?_eq_none (by simp;omega)]at h;cases h
theorem l67{F:Nat}(hF:400≤F){s:ByteArray}:c67 F s=some (Y9 s):=by
 unfold c67 Y9;by_cases h:1≤s.size∧s.size≤24
 ·have e:(bif decide ((s.size:Int)<1)then some true else some (decide ((24:Int)<s.size)))=some false:=by
   have h1:¬(s.size:Int)<1:=by omega
   have h2:¬(24:Int)<s.size:=by omega
   simp[h1,h2]
  rw[e];simp only[Option.bind_some,cond_false,h,and_self,decide_true,Bool.true_and];refine Jn (List.range s.size) (fun(_:Unit) i=>(i:Int)) (fun x _=>if(!okB x ((s.get! x).toNat:Int))=true then .inr (.inl false)else .inl ()) (fun _=>.inr ()) (fun _ _=>True) () (by simp;omega) rfl trivial ?_ ?_ ?_
  ·intro i x _ hi hx _;obtain rfl:=Qf4 hx;simp only[List.length_range]at hi;refine⟨?_,fun _ _=>trivial⟩;simp(disch:=omega)only[Zk,Zi,Int.toNat_natCast,Zh,Zsn];rw[Zay];cases decide ((97:Int)≤((s.get! x).toNat:Int))<;>cases decide (((s.get! x).toNat:Int)≤122)<;>cases decide ((65:Int)≤((s.get! x).toNat:Int))<;>cases decide (((s.get! x).toNat:Int)≤90)<;>
    cases decide ((x:Int)=0)<;>cases decide (((s.get! x).toNat:Int)=95)<;>cases decide ((48:Int)≤((s.get! x).toNat:Int))<;>cases decide (((s.get! x).toNat:Int)≤57)<;>rfl
  ·intro _ _;simp(disch:=omega)only[Zf,List.length_range]
  ·rw[Qce (fun x=>!okB x ((s.get! x).toNat:Int))];unfold Qqt;rw[List.all_eq_not_any_not];cases(List.range s.size).any fun x=>!okB x ((s.get! x).toNat:Int)<;>simp
 ·have e:(bif decide ((s.size:Int)<1)then some true else some (decide ((24:Int)<s.size)))=some true:=by
   by_cases h1:(s.size:Int)<1
   ·simp[h1]
   ·have h2:(24:Int)<s.size:=by omega
    simp[h1,h2]
  rw[e];simp[h]
theorem l98{F:Nat}(hF:400≤F){s:ByteArray}(hs:s.size≤300):c98 F s=some (Y9 s):=by
 unfold c98;refine Zrt (Qpx (List.range s.size) (fun x (_:Unit)=>if(!okB x ((s.get! x).toNat:Int))=true then .inr (.inl false)else .inl ()) (fun _=>(.inr ():Bool ⊕ Unit)) (fun i _ t=>t=(s,i))
  (fun(a:Bool ⊕ Unit) (b:(ByteArray×Nat)×Bool ⊕ ByteArray×Nat)=>a=b.elim (fun v=>.inl v.2) (fun _=>.inr ())) () (by simp;omega) rfl ?_ ?_ ?_)
 ·intro i x _ t hi hx ht;obtain rfl:=Qf4 hx;subst ht;simp only[List.length_range]at hi;simp(disch:=omega)only[Zk];rw[Zay];by_cases hb:(s.get! x).toNat<128
  ·rw[Znl hb];simp only[];by_cases h1:(97:Int)≤((s.get! x).toNat:Int)<;>by_cases h2:((s.get! x).toNat:Int)≤122<;>by_cases h3:(65:Int)≤((s.get! x).toNat:Int)<;>by_cases h4:((s.get! x).toNat:Int)≤90<;>
    by_cases h5:(x:Int)=0<;>by_cases h6:((s.get! x).toNat:Int)=95<;>by_cases h7:((s.get! x).toNat:Int)<48<;>by_cases h8:(57:Int)<((s.get! x).toNat:Int)<;>
    simp only[h1,h2,h3,h4,h5,h6,h7,h8,Int.not_lt.symm,decide_true,decide_false,cond_true,cond_false,Bool.not_true,Bool.not_false,Bool.and_true,Bool.and_false,Bool.true_and,Bool.false_and,Bool.or_true,Bool.or_false,Bool.true_or,Bool.false_or]<;>
    exact⟨_,rfl,rfl⟩
  ·have h2:=Ze9 hb;have a1:(97:Int)≤((Go.Utf8.decode s x).1:Int):=by omega
   have a2:¬((Go.Utf8.decode s x).1:Int)≤122:=by omega
   have a3:(65:Int)≤((Go.Utf8.decode s x).1:Int):=by omega
   have a4:¬((Go.Utf8.decode s x).1:Int)≤90:=by omega
   have a5:¬((Go.Utf8.decode s x).1:Int)=95:=by omega
   have a6:¬((Go.Utf8.decode s x).1:Int)<48:=by omega
   have a7:(57:Int)<((Go.Utf8.decode s x).1:Int):=by omega
   have b2:¬((s.get! x).toNat:Int)≤122:=by omega
   have b4:¬((s.get! x).toNat:Int)≤90:=by omega
   have b5:¬((s.get! x).toNat:Int)=95:=by omega
   have b6:¬((s.get! x).toNat:Int)≤57:=by omega
   simp only[a1,a2,a3,a4,a5,a6,a7,b2,b4,b5,b6,decide_true,decide_false,cond_true,cond_false,Bool.not_true,Bool.not_false,Bool.and_true,Bool.and_false,Bool.or_false];by_cases h5:(x:Int)=0<;>simp only[h5,decide_true,decide_false,cond_true,cond_false,Bool.not_true,Bool.not_false,Bool.and_true,Bool.and_false,if_true]<;>exact⟨_,rfl,rfl⟩
 ·intro _ t ht;subst ht;simp(disch:=omega)only[Zf,List.length_range];exact⟨_,rfl,rfl⟩
 ·intro b hb;rw[Qce (fun x=>!okB x ((s.get! x).toNat:Int))]at hb;have e:(bif decide (0<(s.size:Int))then some (decide ((s.size:Int)≤24))else some false)=some (decide (1≤s.size∧s.size≤24)):=by
   by_cases h1:0<(s.size:Int)
   ·have h2:1≤s.size:=by omega
    by_cases h3:s.size≤24
    ·have:(s.size:Int)≤24:=by omega
     simp only[h1,h2,h3,this,decide_true,cond_true,and_self]
    ·have:¬(s.size:Int)≤24:=by omega
     simp only[h1,h2,h3,this,decide_true,cond_true,and_false]
   ·have h2:¬ 1≤s.size:=by omega
    simp only[h1,h2,decide_false,cond_false,false_and]
  unfold Y9 Qqt;rw[List.all_eq_not_any_not];cases hany:(List.range s.size).any fun x=>!okB x ((s.get! x).toNat:Int)with
  |true=>
   rw[hany]at hb;cases b with
   |inl v=>simp only[if_true,Sum.elim_inl,Sum.inl.injEq]at hb;exact⟨_,rfl,by rw[←hb];simp⟩
   |inr v=>simp at hb
  |false=>
   rw[hany]at hb;cases b with
   |inl v=>simp at hb
   |inr v=>exact⟨_,by simp only[Sum.elim_inr,e];rfl,by simp⟩
theorem Qsr{F:Nat}(hF:400≤F){l:List ByteArray}{x:ByteArray}(hl:l.length≤300):∃v,Qii F (l,x)=some v∧decide (0≤v)=l.any fun y=>Qe x y:=by
 unfold Qii;refine Qpx l (fun y (_:Unit)=>if Qe x y=true then .inr true else .inl ()) (fun _=>false) (fun i _ t=>t=(i:Int)) (fun(a:Bool) (b:Int ⊕ Unit)=>decide (0≤b.elim (fun v=>v) (fun _=>-1))=a) () (by omega) rfl ?_ ?_ ?_
 ·intro i y _ t hi hy ht;subst ht;simp(disch:=omega)only[Zk,Zi,Int.toNat_natCast,getD_some hy,Zh];cases Qe x y with
  |true=>exact⟨_,rfl,by simp[Qdt]⟩
  |false=>exact⟨_,rfl,by simp[Qdt]⟩
 ·intro _ t ht;subst ht;simp(disch:=omega)only[Zf];exact⟨_,rfl,by simp⟩
 ·intro b hb;rw[Qce]at hb;refine⟨b.elim (fun v=>v) (fun _=>-1),by cases b<;>rfl,?_⟩;rw[hb];cases l.any fun y=>Qe x y<;>rfl
def Uq(r:ByteArray):Bool:=Qe r {data:=List.toArray ((68:UInt8)::(78:UInt8)::(83:UInt8)::Qb UInt8)}||(Qe r {data:=List.toArray ((68:UInt8)::(78:UInt8)::(70:UInt8)::Qb UInt8)}||(Qe r {data:=List.toArray ((68:UInt8)::(81:UInt8)::Qb UInt8)}||Qe r {data:=List.toArray ((78:UInt8)::(77:UInt8)::Qb UInt8)}))
theorem Zik(F:Nat)(r:ByteArray):Qmg F r=some (Uq r):=by
 unfold Qmg Uq;cases Qe r {data:=List.toArray ((68:UInt8)::(78:UInt8)::(83:UInt8)::Qb UInt8)}<;>cases Qe r {data:=List.toArray ((68:UInt8)::(78:UInt8)::(70:UInt8)::Qb UInt8)}<;>
  cases Qe r {data:=List.toArray ((68:UInt8)::(81:UInt8)::Qb UInt8)}<;>cases Qe r {data:=List.toArray ((78:UInt8)::(77:UInt8)::Qb UInt8)}<;>rfl
theorem Zq2{F:Nat}(hF:400≤F)(r:ByteArray):Qjs F r=some (Uq r):=by unfold Qjs W3;obtain⟨v,h1,h2⟩:=Qsr hF (l:={data:=List.toArray ((68:UInt8)::(78:UInt8)::(83:UInt8)::Qb UInt8)}::{data:=List.toArray ((68:UInt8)::(78:UInt8)::(70:UInt8)::Qb UInt8)}::{data:=List.toArray ((68:UInt8)::(81:UInt8)::Qb UInt8)}::{data:=List.toArray ((78:UInt8)::(77:UInt8)::Qb UInt8)}::Qb ByteArray) (x:=r) (by simp[Qb]);simp only[h1,Option.bind_some,h2];simp[Qb,Uq]
theorem Qwf(F:Nat)(b:Bool)(e:Int):Xc F (b,e)=some (if b then e else 0):=by unfold Xc;cases b<;>rfl
theorem Zro(F:Nat)(n lo hi:Int):Vn F (n,lo,hi)=some (decide (n<lo∨hi<n)):=by unfold Vn;by_cases h:n<lo<;>by_cases k:hi<n<;>simp[h,k]
def kT:ByteArray:={data:=List.toArray ((116:UInt8)::(105:UInt8)::(109:UInt8)::(101:UInt8)::Qb UInt8)}
def kN:ByteArray:={data:=List.toArray ((110:UInt8)::(111:UInt8)::(110:UInt8)::(101:UInt8)::Qb UInt8)}
def kL:ByteArray:={data:=List.toArray ((108:UInt8)::(101:UInt8)::(110:UInt8)::(103:UInt8)::(116:UInt8)::(104:UInt8)::Qb UInt8)}
def kP:ByteArray:={data:=List.toArray ((112:UInt8)::(111:UInt8)::(105:UInt8)::(110:UInt8)::(116:UInt8)::(115:UInt8)::Qb UInt8)}
def k0:ByteArray:={data:=List.toArray (Qb UInt8)}
def Jb(k:ByteArray)(v:Int)(r:ByteArray):Int:=
 if Qe k kN=true then(if Uq r=false then 1 else if v≠0 then 3 else 0)
 else if Qe k kT=true then(if Qe r k0=false then 1 else if v<1∨863999999<v then 3 else 0)
 else if Qe k kL=true then(if Qe r k0=false then 1 else if v<0∨999999<v then 3 else 0)
 else if Qe k kP=true then(if Qe r k0=false then 1 else if v<0∨99999<v then 3 else 0)
 else 13
theorem Qy5(F:Nat)(k:ByteArray)(v:Int)(r:ByteArray):Qeo F (k,v,r)=some (Jb k v r):=by
 unfold Qeo Qox Qn7 Jb;simp only[Zik,Option.bind_some];change (bif Qe k kN then _ else _)=_;cases hN:Qe k kN with
 |true=>
  cases Uq r
  ·simp
  ·by_cases h:v=0<;>simp[h]
 |false=>
  change Option.bind (bif Qe k kT then some (Qe k kT)else(Option.bind (bif Qe k kL then some (Qe k kL)else some (Qe k kP)) fun(v23:Bool)=>some v23)) (fun v19=>bif v19 then(bif !Qe r k0 then some 1 else(Option.bind (Option.bind (bif Qe k kT then some 1 else some 0) fun v21=>bif decide (v<v21)then some true else(Option.bind (bif Qe k kT then some 863999999 else(bif Qe k kL then some 999999 else some 99999)) fun(v22:Int)=>some (decide (v22<v)))) fun v20=>bif v20 then some 3 else some 0))else some 13)=_;have key:∀lo hi:Int,(Option.bind (bif decide (v<lo)then some true else some (decide (hi<v))) fun v20=>bif v20 then some (3:Int)else some 0)=some (if v<lo∨hi<v then 3 else 0):=by intro lo hi;by_cases h:v<lo<;>by_cases h':hi<v<;>simp[h,h']
  cases hT:Qe k kT<;>cases hL:Qe k kL<;>cases hP:Qe k kP<;>cases h0:Qe r k0<;>simp only[cond_true,cond_false,Option.bind_some,Bool.not_true,Bool.not_false,key]<;>simp
theorem l99{F:Nat}(hF:400≤F)(k:ByteArray)(v:Int)(r:ByteArray):c99 F (k,v,r)=some (Jb k v r):=by
 unfold c99;simp only[Zq2 hF,Qwf,Zro,Option.bind_some];rw[Qo9 (l:=(if(!Uq r)=true then 1 else 0)::(if(!decide (v=0))=true then 3 else 0)::Qb Int) (by simp[Qb];omega) (by simp[Qb])];have q:∀(a b c:Int),Jm F (a::b::c::Qb Int)=some (if a≠0 then a else if b≠0 then b else c):=by intro a b c;rw[Qo9 (by simp[Qb];omega) (by simp[Qb])];by_cases ha:a=0<;>by_cases hb:b=0<;>by_cases hc:c=0<;>simp[Qo,Qb,ha,hb,hc]
 simp only[q];change (bif Qe k kN then _ else Option.bind (bif Qe k kT then _ else(bif Qe k kL then _ else(bif Qe k kP then _ else _))) _)=_;unfold Jb;cases hN:Qe k kN with
 |true=>simp only[cond_true,if_true];cases Uq r<;>by_cases h:v=0<;>simp[h,Qo,Qb]
 |false=>
  simp only[cond_false,Bool.false_eq_true,if_false];have g:∀x:Int,gd (Qw.eqv (Qf.val (Ty.int Go.IntKind.i64)::Qb Qf) x x) (some x)=some x:=by
   intro x;have:Qw.eqv (Qf.val (Ty.int Go.IntKind.i64)::Qb Qf) x x=true:=by change Ku x x=true;simp[Ku]
   rw[this];rfl
  have e0:Qe r {data:=List.toArray (Qb UInt8)}=Qe r k0:=rfl;have eT:Qe k {data:=List.toArray ((116:UInt8)::(105:UInt8)::(109:UInt8)::(101:UInt8)::Qb UInt8)}=Qe k kT:=rfl;have eL:Qe k {data:=List.toArray ((108:UInt8)::(101:UInt8)::(110:UInt8)::(103:UInt8)::(116:UInt8)::(104:UInt8)::Qb UInt8)}=Qe k kL:=rfl;have eP:Qe k {data:=List.toArray ((112:UInt8)::(111:UInt8)::(105:UInt8)::(110:UInt8)::(116:UInt8)::(115:UInt8)::Qb UInt8)}=Qe k kP:=rfl;simp only[e0,eT,eL,eP];cases hT:Qe k kT<;>cases hL:Qe k kL<;>cases hP:Qe k kP<;>cases h0:Qe r k0<;>simp only[cond_true,cond_false,Option.bind_some,g]<;>simp
theorem Qm4(x:Int):Qw.eqv (Qf.val (Ty.int IntKind.i64)::Qb Qf) x x=true:=Qw.eqv_rf (Qf.val (Ty.int IntKind.i64)::Qb Qf) x
theorem Qpl(n:Nat)(x:Int):Z0.eqv (Ql.slot n (Qf.val (Ty.int IntKind.i64))::Qb Ql) x x=true:=Z0.eqv_rf (Ql.slot n (Qf.val (Ty.int IntKind.i64))::Qb Ql) x
theorem Qw1{α:Type}(e:α→Int):∀(l:List α),goL (fun x (_:Unit)=>if e x=0 then(.inl ():Unit ⊕ (Int ⊕ Unit))else .inr (.inl (e x))) (fun _=>.inr ()) l ()=if Qo (l.map e)=0 then .inr ()else .inl (Qo (l.map e))
 |[]=>rfl
 |x::l=>by
  rw[Qgd,List.map_cons];simp only[Qo];by_cases h:e x=0
  ·simp only[h,if_true];exact Qw1 e l
  ·simp only[h,if_false]
theorem Qp9{α γ:Type}{step:Int→Option (Int ⊕ (Int ⊕ Unit))}{F:Nat}{k:Int ⊕ Unit→Option γ}{r:Option γ}(l:List α)(e:α→Int)(hF:l.length<F)
  (hstep:∀(i:Nat) x,i<l.length→l[i]? =some x→step (i:Int)=some (if e x=0 then .inl ((i:Int)+1)else .inr (.inl (e x))))
  (hend:step (l.length:Int)=some (.inr (.inr ())))
  (hk:k (if Qo (l.map e)=0 then .inr ()else .inl (Qo (l.map e)))=r):Option.bind (Qu step F 0) k=r:=by
 refine Jn l (fun(_:Unit) i=>(i:Int)) (fun x (_:Unit)=>if e x=0 then .inl ()else .inr (.inl (e x))) (fun _=>.inr ()) (fun _ _=>True) () hF rfl trivial ?_ ?_ ?_
 ·intro i x _ hi hx _;refine⟨?_,fun _ _=>trivial⟩;rw[hstep i x hi hx];by_cases h:e x=0
  ·simp only[h,if_true];rfl
  ·simp only[h,if_false]
 ·intro _ _;exact hend
 ·rw[Qw1];exact hk
def Z1(n:Int):Bool:=decide (n<0)||decide (99999<n)
theorem Zxp(F:Nat)(n:Int):Qim F n=some (Z1 n):=by unfold Qim Z1;by_cases h:n<0<;>simp[h]
theorem l94(F:Nat)(n:Int):c94 F (n,99999)=some (Z1 n):=by unfold c94 Z1;by_cases h:n<0<;>simp[h]
theorem Zme{F:Nat}{l:List Int}(hF:l.length<F)(hl:l.length≤1000):∃v,Qme F l=some v∧decide (0≤v)=l.any Z1:=by
 unfold Qme;refine Qpx l (fun y (_:Unit)=>if Z1 y=true then .inr true else .inl ()) (fun _=>false) (fun i _ t=>t=(i:Int)) (fun(a:Bool) (b:Int ⊕ Unit)=>decide (0≤b.elim (fun v=>v) (fun _=>-1))=a) () (by omega) rfl ?_ ?_ ?_
 ·intro i y _ t hi hy ht;subst ht;simp(disch:=omega)only[Zk,Zi,Int.toNat_natCast,getD_some hy,Zh,Zxp,Option.bind_some];cases Z1 y with
  |true=>exact⟨_,rfl,by simp[Qdt]⟩
  |false=>exact⟨_,rfl,by simp[Qdt]⟩
 ·intro _ t ht;subst ht;simp(disch:=omega)only[Zf];exact⟨_,rfl,by simp⟩
 ·intro b hb;rw[Qce]at hb;refine⟨b.elim (fun v=>v) (fun _=>-1),by cases b<;>rfl,?_⟩;rw[hb];cases l.any Z1<;>rfl
theorem l86(F:Nat)(b:Bool)(e:Int):Q1 F (b,e)=some (if b=true then e else 0):=by unfold Q1;cases b<;>rfl
theorem l85{F:Nat}{l:List Int}(hF:l.length<F)(hl:l.length≤1000):c85 F l=some (if l.any Z1=true then 3 else 0):=by unfold c85 Qm8;obtain⟨v,h1,h2⟩:=Zme hF hl;simp only[h1,h2,Option.bind_some,l86]
theorem l92{F:Nat}(hF:400≤F){s:ByteArray}(hs:s.size≤300):c92 F s=some (if Y9 s=true then 0 else 8):=by unfold c92;simp only[l98 hF hs,Option.bind_some,l86];cases Y9 s<;>rfl
def Qec(f t:Int):Int:=if(Z1 f||Z1 t)=true then 3 else if t<f then 11 else 0
theorem Zfo{F:Nat}(hF:400≤F)(n:ByteArray)(f t:Int):Qhl F (n,f,t)=some (Qec f t):=by unfold Qhl Qec;rw[l85 (by simp[Qb];omega) (by simp[Qb])];simp only[Option.bind_some,l86];rw[l84 (by simp[Qb];omega) (by simp[Qb])];simp only[Option.bind_some,Qb,List.any_cons,List.any_nil,Bool.or_false,Qo,decide_eq_true_eq];cases Z1 f||Z1 t<;>by_cases h:t<f<;>simp[h]
end Go.Proofs.Tryz
