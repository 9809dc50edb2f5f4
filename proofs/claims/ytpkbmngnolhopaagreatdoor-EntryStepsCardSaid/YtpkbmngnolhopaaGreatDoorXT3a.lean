/- Plain law: names and marks, in the program and in the reference. Plain law: days, licences, ages. -/
import Derived.Test.YtpkbmngnolhopaaGreatDoorXTeF
import Derived.Test.YtpkbmngnolhopaaGreatDoorXSxQh
set_option maxRecDepth 100000
set_option linter.unusedVariables false
set_option linter.unusedSimpArgs false
open Option renaming bind_some->j,bind->R
open Decidable renaming decide->o
open Go.Utf8 renaming decode->C
open Int renaming toNat_natCast->I,toNat->ZD
open Bool renaming not_false->J,not_true->U,and_false->ZF,and_true->ZH,or_false->ZI,true_and->ZK
open List renaming length_range->ZA,length->ZB,range->ZC,all_eq_not_any_not->ZE,getD->ZG,drop_length->ZJ
namespace Go.Proofs.Tryz
open Go Go.Sx
def Qk:List Int->Int
 |[]=>0
 |x::l=>if x=0 then Qk l else x
theorem Qzd{l:List Int}{k:Nat}(hk:k<l.length):Qk (l.drop k)=if l.getD k 0=0 then Qk (l.drop (k+1))else l.getD k 0:=by rw[List.drop_eq_getElem_cons hk];simp only[Qk,ZG,List.getElem?_eq_getElem hk,Option.getD_some]
theorem l84{F:Nat}{l:List Int}(hF:l.length<F)(hl:l.length<=1000):Q2 F l=some (Qk l):=by
 unfold Q2;obtain⟨b,h1,h2⟩:=Ql1 (step:=fun(v13:Int)=>bif o (v13<(↑(ZB l):Int))then(gd (o ((0:Int)<=v13)) (gd (o (v13<(↑(ZB l):Int))) (gd (o (ZD v13<ZB l)) (bif ! o (ZG l (ZD v13) (0:Int)=(0:Int))then(some (Sum.inr (Sum.inl (ZG l (ZD v13) (0:Int)))))else(some (Sum.inl (Go.Sx.w64 (v13+(1:Int)))))))))else(some (Sum.inr (Sum.inr Unit.unit))))
  (fun v=>0<=v∧v<=l.length∧Qk l=Qk (l.drop v.toNat)) (fun v=>l.length-v.toNat) (fun b=>Sum.elim (fun(v11:Int)=>some (v11)) (fun(v12:Unit)=>some ((0:Int))) b=some (Qk l))
  (fun v ⟨h0,h1,h2⟩=>by
   by_cases hv:v<l.length
   ·have hk:v.toNat<l.length:=by omega
    simp only[h0,hv,hk,decide_true,cond_true,Zh];rw[Qzd hk]at h2;by_cases hz:l.getD v.toNat 0=0
    ·left;refine⟨v+1,?_,⟨by omega,by omega,?_⟩,by omega⟩
     ·simp only[hz,decide_true,U,cond_false];rw[Zv (by omega) (by omega)]
     ·rw[if_pos hz]at h2;rw[h2,show(v+1).toNat=v.toNat+1 by omega]
    ·right;refine⟨.inl (l.getD v.toNat 0),by simp only[hz,decide_false,J,cond_true],?_⟩;rw[if_neg hz]at h2;simp[h2]
   ·right;refine⟨.inr (),by simp only[hv,decide_false,cond_false],?_⟩;have:v.toNat=l.length:=by omega
    rw[this,ZJ]at h2;simp[h2,Qk])
  F 0 ⟨by omega,by omega,by simp⟩ (by simpa using hF)
 rw[h1];exact h2
theorem Qxu{F:Nat}{l:List Int}(hF:l.length<F)(hl:l.length<=1000):Vd F l=some (Qk l):=by
 unfold Vd;obtain⟨b,h1,h2⟩:=Ql1 (step:=fun(v13:Int)=>bif o (v13<(↑(ZB l):Int))then(gd (o ((0:Int)<=v13)) (gd (o (v13<(↑(ZB l):Int))) (gd (o (ZD v13<ZB l)) (bif ! o (ZG l (ZD v13) (0:Int)=(0:Int))then(some (Sum.inr (Sum.inl (ZG l (ZD v13) (0:Int)))))else(some (Sum.inl (Go.Sx.w64 (v13+(1:Int)))))))))else(some (Sum.inr (Sum.inr Unit.unit))))
  (fun v=>0<=v∧v<=l.length∧Qk l=Qk (l.drop v.toNat)) (fun v=>l.length-v.toNat) (fun b=>Sum.elim (fun(v11:Int)=>some (v11)) (fun(v12:Unit)=>some ((0:Int))) b=some (Qk l))
  (fun v ⟨h0,h1,h2⟩=>by
   by_cases hv:v<l.length
   ·have hk:v.toNat<l.length:=by omega
    simp only[h0,hv,hk,decide_true,cond_true,Zh];rw[Qzd hk]at h2;by_cases hz:l.getD v.toNat 0=0
    ·left;refine⟨v+1,?_,⟨by omega,by omega,?_⟩,by omega⟩
     ·simp only[hz,decide_true,U,cond_false];rw[Zv (by omega) (by omega)]
     ·rw[if_pos hz]at h2;rw[h2,show(v+1).toNat=v.toNat+1 by omega]
    ·right;refine⟨.inl (l.getD v.toNat 0),by simp only[hz,decide_false,J,cond_true],?_⟩;rw[if_neg hz]at h2;simp[h2]
   ·right;refine⟨.inr (),by simp only[hv,decide_false,cond_false],?_⟩;have:v.toNat=l.length:=by omega
    rw[this,ZJ]at h2;simp[h2,Qk])
  F 0 ⟨by omega,by omega,by simp⟩ (by simpa using hF)
 rw[h1];exact h2
def okB(i:Nat)(b:Int):Bool:=(decide (97<=b)&&decide (b<=122))||(decide (65<=b)&&decide (b<=90))||(!decide (i=0)&&(decide (b=95)||(decide (48<=b)&&decide (b<=57))))
def Qvi(s:ByteArray):Bool:=(ZC s.size).all fun i=>okB i ((s.get! i).toNat:Int)
def Y3(s:ByteArray):Bool:=decide (1<=s.size∧s.size<=24)&&Qvi s
theorem Zac(i:Nat)(b:Int):okB i b=((decide (97<=b)&&decide (b<=122))||(decide (65<=b)&&decide (b<=90))||(!decide ((i:Int)=0)&&(decide (b=95)||(decide (48<=b)&&decide (b<=57))))):=by simp[okB]
theorem Qhy{n i x:Nat}(h:(ZC n)[i]? =some x):x=i:=by
 by_cases hi:i<n
 ·rw[List.getElem?_range hi]at h;exact(Option.some.inj h).symm
 ·rw[List.getElem?_eq_none (by simp;omega)]at h;cases h
theorem l67{F:Nat}(hF:400<=F){s:ByteArray}:c67 F s=some (Y3 s):=by
 unfold c67 Y3;by_cases h:1<=s.size∧s.size<=24
 ·have e:(bif decide ((s.size:Int)<1)then some true else some (decide ((24:Int)<s.size)))=some false:=by
   have h1:¬(s.size:Int)<1:=by omega
   have h2:¬(24:Int)<s.size:=by omega
   simp[h1,h2]
  rw[e];simp only[j,cond_false,h,and_self,decide_true,ZK];refine Jh (ZC s.size) (fun(_:Unit) i=>(i:Int)) (fun x _=>if(!okB x ((s.get! x).toNat:Int))=true then .inr (.inl false)else .inl ()) (fun _=>.inr ()) (fun _ _=>True) () (by simp;omega) rfl trivial ?_ ?_ ?_
  ·intro i x _ hi hx _;obtain rfl:=Qhy hx;simp only[ZA]at hi;refine⟨?_,fun _ _=>trivial⟩;simp(disch:=omega)only[Zx,Zf,I,Zv,Qzp];rw[Zac];cases decide ((97:Int)<=((s.get! x).toNat:Int))<;>cases decide (((s.get! x).toNat:Int)<=122)<;>cases decide ((65:Int)<=((s.get! x).toNat:Int))<;>cases decide (((s.get! x).toNat:Int)<=90)<;>
    cases decide ((x:Int)=0)<;>cases decide (((s.get! x).toNat:Int)=95)<;>cases decide ((48:Int)<=((s.get! x).toNat:Int))<;>cases decide (((s.get! x).toNat:Int)<=57)<;>rfl
  ·intro _ _;simp(disch:=omega)only[Zz,ZA]
  ·rw[Qcn (fun x=>!okB x ((s.get! x).toNat:Int))];unfold Qvi;rw[ZE];cases(ZC s.size).any fun x=>!okB x ((s.get! x).toNat:Int)<;>simp
 ·have e:(bif decide ((s.size:Int)<1)then some true else some (decide ((24:Int)<s.size)))=some true:=by
   by_cases h1:(s.size:Int)<1
   ·simp[h1]
   ·have h2:(24:Int)<s.size:=by omega
    simp[h1,h2]
  rw[e];simp[h]
theorem l98{F:Nat}(hF:400<=F){s:ByteArray}(hs:s.size<=300):c98 F s=some (Y3 s):=by
 unfold c98;refine Yro (Qzj (ZC s.size) (fun x (_:Unit)=>if(!okB x ((s.get! x).toNat:Int))=true then .inr (.inl false)else .inl ()) (fun _=>(.inr ():Bool ⊕ Unit)) (fun i _ t=>t=(s,i))
  (fun(a:Bool ⊕ Unit) (b:(ByteArray×Nat)×Bool ⊕ ByteArray×Nat)=>a=b.elim (fun v=>.inl v.2) (fun _=>.inr ())) () (by simp;omega) rfl ?_ ?_ ?_)
 ·intro i x _ t hi hx ht;obtain rfl:=Qhy hx;subst ht;simp only[ZA]at hi;simp(disch:=omega)only[Zx];rw[Zac];by_cases hb:(s.get! x).toNat<128
  ·rw[Yfh hb];simp only[];by_cases h1:(97:Int)<=((s.get! x).toNat:Int)<;>by_cases h2:((s.get! x).toNat:Int)<=122<;>by_cases h3:(65:Int)<=((s.get! x).toNat:Int)<;>by_cases h4:((s.get! x).toNat:Int)<=90<;>
    by_cases h5:(x:Int)=0<;>by_cases h6:((s.get! x).toNat:Int)=95<;>by_cases h7:((s.get! x).toNat:Int)<48<;>by_cases h8:(57:Int)<((s.get! x).toNat:Int)<;>
    simp only[h1,h2,h3,h4,h5,h6,h7,h8,Int.not_lt.symm,decide_true,decide_false,cond_true,cond_false,U,J,ZH,ZF,ZK,Bool.false_and,Bool.or_true,ZI,Bool.true_or,Bool.false_or]<;>
    exact⟨_,rfl,rfl⟩
  ·have h2:=Yb5 hb;have a1:(97:Int)<=((C s x).1:Int):=by omega
   have a2:¬((C s x).1:Int)<=122:=by omega
   have a3:(65:Int)<=((C s x).1:Int):=by omega
   have a4:¬((C s x).1:Int)<=90:=by omega
   have a5:¬((C s x).1:Int)=95:=by omega
   have a6:¬((C s x).1:Int)<48:=by omega
   have a7:(57:Int)<((C s x).1:Int):=by omega
   have b2:¬((s.get! x).toNat:Int)<=122:=by omega
   have b4:¬((s.get! x).toNat:Int)<=90:=by omega
   have b5:¬((s.get! x).toNat:Int)=95:=by omega
   have b6:¬((s.get! x).toNat:Int)<=57:=by omega
   simp only[a1,a2,a3,a4,a5,a6,a7,b2,b4,b5,b6,decide_true,decide_false,cond_true,cond_false,U,J,ZH,ZF,ZI];by_cases h5:(x:Int)=0<;>simp only[h5,decide_true,decide_false,cond_true,cond_false,U,J,ZH,ZF,if_true]<;>exact⟨_,rfl,rfl⟩
 ·intro _ t ht;subst ht;simp(disch:=omega)only[Zz,ZA];exact⟨_,rfl,rfl⟩
 ·intro b hb;rw[Qcn (fun x=>!okB x ((s.get! x).toNat:Int))]at hb;have e:(bif decide (0<(s.size:Int))then some (decide ((s.size:Int)<=24))else some false)=some (decide (1<=s.size∧s.size<=24)):=by
   by_cases h1:0<(s.size:Int)
   ·have h2:1<=s.size:=by omega
    by_cases h3:s.size<=24
    ·have:(s.size:Int)<=24:=by omega
     simp only[h1,h2,h3,this,decide_true,cond_true,and_self]
    ·have:¬(s.size:Int)<=24:=by omega
     simp only[h1,h2,h3,this,decide_true,cond_true,and_false]
   ·have h2:¬ 1<=s.size:=by omega
    simp only[h1,h2,decide_false,cond_false,false_and]
  unfold Y3 Qvi;rw[ZE];cases hany:(ZC s.size).any fun x=>!okB x ((s.get! x).toNat:Int)with
  |true=>
   rw[hany]at hb;cases b with
   |inl v=>simp only[if_true,Sum.elim_inl,Sum.inl.injEq]at hb;exact⟨_,rfl,by rw[<-hb];simp⟩
   |inr v=>simp at hb
  |false=>
   rw[hany]at hb;cases b with
   |inl v=>simp at hb
   |inr v=>exact⟨_,by simp only[Sum.elim_inr,e];rfl,by simp⟩
theorem Zgo{F:Nat}(hF:400<=F){l:List ByteArray}{x:ByteArray}(hl:l.length<=300):∃v,Qq5 F (l,x)=some v∧decide (0<=v)=l.any fun y=>Qc x y:=by
 unfold Qq5;refine Qzj l (fun y (_:Unit)=>if Qc x y=true then .inr true else .inl ()) (fun _=>false) (fun i _ t=>t=(i:Int)) (fun(a:Bool) (b:Int ⊕ Unit)=>decide (0<=b.elim (fun v=>v) (fun _=>-1))=a) () (by omega) rfl ?_ ?_ ?_
 ·intro i y _ t hi hy ht;subst ht;simp(disch:=omega)only[Zx,Zf,I,getD_some hy,Zv];cases Qc x y with
  |true=>exact⟨_,rfl,by simp[Qjz]⟩
  |false=>exact⟨_,rfl,by simp[Qjz]⟩
 ·intro _ t ht;subst ht;simp(disch:=omega)only[Zz];exact⟨_,rfl,by simp⟩
 ·intro b hb;rw[Qcn]at hb;refine⟨b.elim (fun v=>v) (fun _=>-1),by cases b<;>rfl,?_⟩;rw[hb];cases l.any fun y=>Qc x y<;>rfl
def Qd7(r:ByteArray):Bool:=Qc r YR||(Qc r YS||(Qc r YT||Qc r YQ))
theorem Zmk(F:Nat)(r:ByteArray):Qsw F r=some (Qd7 r):=by
 unfold Qsw Qd7;cases Qc r YR<;>cases Qc r YS<;>
  cases Qc r YT<;>cases Qc r YQ<;>rfl
theorem Ygw{F:Nat}(hF:400<=F)(r:ByteArray):Qp4 F r=some (Qd7 r):=by unfold Qp4 Kh;obtain⟨v,h1,h2⟩:=Zgo hF (l:=YR::YS::YT::YQ::Qa ByteArray) (x:=r) (by simp[Qa]);simp only[h1,j,h2];simp[Qa,Qd7]
theorem Zho(F:Nat)(b:Bool)(e:Int):Jk F (b,e)=some (if b then e else 0):=by unfold Jk;cases b<;>rfl
theorem Ycx(F:Nat)(n lo hi:Int):Uu F (n,lo,hi)=some (decide (n<lo∨hi<n)):=by unfold Uu;by_cases h:n<lo<;>by_cases k:hi<n<;>simp[h,k]
def kT:ByteArray:=YL
def kN:ByteArray:=YN
def kL:ByteArray:=YM
def kP:ByteArray:=YO
def k0:ByteArray:=YD
def Jq(k:ByteArray)(v:Int)(r:ByteArray):Int:=
 if Qc k kN=true then(if Qd7 r=false then 1 else if v≠0 then 3 else 0)
 else if Qc k kT=true then(if Qc r k0=false then 1 else if v<1∨863999999<v then 3 else 0)
 else if Qc k kL=true then(if Qc r k0=false then 1 else if v<0∨999999<v then 3 else 0)
 else if Qc k kP=true then(if Qc r k0=false then 1 else if v<0∨99999<v then 3 else 0)
 else 13
theorem Qt2(F:Nat)(k:ByteArray)(v:Int)(r:ByteArray):Qh2 F (k,v,r)=some (Jq k v r):=by
 unfold Qh2 Qvy Qx7 Jq;simp only[Zmk,j];change (bif Qc k kN then _ else _)=_;cases hN:Qc k kN with
 |true=>
  cases Qd7 r
  ·simp
  ·by_cases h:v=0<;>simp[h]
 |false=>
  change R (bif Qc k kT then some (Qc k kT)else(R (bif Qc k kL then some (Qc k kL)else some (Qc k kP)) fun(v23:Bool)=>some v23)) (fun v19=>bif v19 then(bif !Qc r k0 then some 1 else(R (R (bif Qc k kT then some 1 else some 0) fun v21=>bif decide (v<v21)then some true else(R (bif Qc k kT then some 863999999 else(bif Qc k kL then some 999999 else some 99999)) fun(v22:Int)=>some (decide (v22<v)))) fun v20=>bif v20 then some 3 else some 0))else some 13)=_;have key:∀lo hi:Int,(R (bif decide (v<lo)then some true else some (decide (hi<v))) fun v20=>bif v20 then some (3:Int)else some 0)=some (if v<lo∨hi<v then 3 else 0):=by intro lo hi;by_cases h:v<lo<;>by_cases h':hi<v<;>simp[h,h']
  cases hT:Qc k kT<;>cases hL:Qc k kL<;>cases hP:Qc k kP<;>cases h0:Qc r k0<;>simp only[cond_true,cond_false,j,U,J,key]<;>simp
theorem l99{F:Nat}(hF:400<=F)(k:ByteArray)(v:Int)(r:ByteArray):c99 F (k,v,r)=some (Jq k v r):=by
 unfold c99;simp only[Ygw hF,Zho,Ycx,j];rw[Qxu (l:=(if(!Qd7 r)=true then 1 else 0)::(if(!decide (v=0))=true then 3 else 0)::Qa Int) (by simp[Qa];omega) (by simp[Qa])];have q:∀(a b c:Int),Vd F (a::b::c::Qa Int)=some (if a≠0 then a else if b≠0 then b else c):=by intro a b c;rw[Qxu (by simp[Qa];omega) (by simp[Qa])];by_cases ha:a=0<;>by_cases hb:b=0<;>by_cases hc:c=0<;>simp[Qk,Qa,ha,hb,hc]
 simp only[q];change (bif Qc k kN then _ else R (bif Qc k kT then _ else(bif Qc k kL then _ else(bif Qc k kP then _ else _))) _)=_;unfold Jq;cases hN:Qc k kN with
 |true=>simp only[cond_true,if_true];cases Qd7 r<;>by_cases h:v=0<;>simp[h,Qk,Qa]
 |false=>
  simp only[cond_false,Bool.false_eq_true,if_false];have g:∀x:Int,gd (Qt.eqv (Qe.val (Ty.int Go.IntKind.i64)::Qa Qe) x x) (some x)=some x:=by
   intro x;have:Qt.eqv (Qe.val (Ty.int Go.IntKind.i64)::Qa Qe) x x=true:=by change Qag x x=true;simp[Qag]
   rw[this];rfl
  have e0:Qc r YD=Qc r k0:=rfl;have eT:Qc k YL=Qc k kT:=rfl;have eL:Qc k YM=Qc k kL:=rfl;have eP:Qc k YO=Qc k kP:=rfl;simp only[e0,eT,eL,eP];cases hT:Qc k kT<;>cases hL:Qc k kL<;>cases hP:Qc k kP<;>cases h0:Qc r k0<;>simp only[cond_true,cond_false,j,g]<;>simp
theorem Vv(x:Int):Qt.eqv (Qe.val (Ty.int IntKind.i64)::Qa Qe) x x=true:=Qt.eqv_rf (Qe.val (Ty.int IntKind.i64)::Qa Qe) x
theorem Qms(n:Nat)(x:Int):Yo.eqv (Qu.slot n (Qe.val (Ty.int IntKind.i64))::Qa Qu) x x=true:=Yo.eqv_rf (Qu.slot n (Qe.val (Ty.int IntKind.i64))::Qa Qu) x
theorem Ze2{α:Type}(e:α->Int):∀(l:List α),goL (fun x (_:Unit)=>if e x=0 then(.inl ():Unit ⊕ (Int ⊕ Unit))else .inr (.inl (e x))) (fun _=>.inr ()) l ()=if Qk (l.map e)=0 then .inr ()else .inl (Qk (l.map e))
 |[]=>rfl
 |x::l=>by
  rw[Qlp,List.map_cons];simp only[Qk];by_cases h:e x=0
  ·simp only[h,if_true];exact Ze2 e l
  ·simp only[h,if_false]
theorem Qgk{α γ:Type}{step:Int->Option (Int ⊕ (Int ⊕ Unit))}{F:Nat}{k:Int ⊕ Unit->Option γ}{r:Option γ}(l:List α)(e:α->Int)(hF:l.length<F)
  (hstep:∀(i:Nat) x,i<l.length->l[i]? =some x->step (i:Int)=some (if e x=0 then .inl ((i:Int)+1)else .inr (.inl (e x))))
  (hend:step (l.length:Int)=some (.inr (.inr ())))
  (hk:k (if Qk (l.map e)=0 then .inr ()else .inl (Qk (l.map e)))=r):R (Q4 step F 0) k=r:=by
 refine Jh l (fun(_:Unit) i=>(i:Int)) (fun x (_:Unit)=>if e x=0 then .inl ()else .inr (.inl (e x))) (fun _=>.inr ()) (fun _ _=>True) () hF rfl trivial ?_ ?_ ?_
 ·intro i x _ hi hx _;refine⟨?_,fun _ _=>trivial⟩;rw[hstep i x hi hx];by_cases h:e x=0
  ·simp only[h,if_true];rfl
  ·simp only[h,if_false]
 ·intro _ _;exact hend
 ·rw[Ze2];exact hk
def Yj(n:Int):Bool:=decide (n<0)||decide (99999<n)
theorem Ykq(F:Nat)(n:Int):Qrz F n=some (Yj n):=by unfold Qrz Yj;by_cases h:n<0<;>simp[h]
theorem l94(F:Nat)(n:Int):c94 F (n,99999)=some (Yj n):=by unfold c94 Yj;by_cases h:n<0<;>simp[h]
theorem Zuq{F:Nat}{l:List Int}(hF:l.length<F)(hl:l.length<=1000):∃v,Qpj F l=some v∧decide (0<=v)=l.any Yj:=by
 unfold Qpj;refine Qzj l (fun y (_:Unit)=>if Yj y=true then .inr true else .inl ()) (fun _=>false) (fun i _ t=>t=(i:Int)) (fun(a:Bool) (b:Int ⊕ Unit)=>decide (0<=b.elim (fun v=>v) (fun _=>-1))=a) () (by omega) rfl ?_ ?_ ?_
 ·intro i y _ t hi hy ht;subst ht;simp(disch:=omega)only[Zx,Zf,I,getD_some hy,Zv,Ykq,j];cases Yj y with
  |true=>exact⟨_,rfl,by simp[Qjz]⟩
  |false=>exact⟨_,rfl,by simp[Qjz]⟩
 ·intro _ t ht;subst ht;simp(disch:=omega)only[Zz];exact⟨_,rfl,by simp⟩
 ·intro b hb;rw[Qcn]at hb;refine⟨b.elim (fun v=>v) (fun _=>-1),by cases b<;>rfl,?_⟩;rw[hb];cases l.any Yj<;>rfl
theorem l86(F:Nat)(b:Bool)(e:Int):Qn F (b,e)=some (if b=true then e else 0):=by unfold Qn;cases b<;>rfl
theorem l85{F:Nat}{l:List Int}(hF:l.length<F)(hl:l.length<=1000):Ye F l=some (if l.any Yj=true then 3 else 0):=by unfold Ye Qxk;obtain⟨v,h1,h2⟩:=Zuq hF hl;simp only[h1,h2,j,l86]
theorem l92{F:Nat}(hF:400<=F){s:ByteArray}(hs:s.size<=300):c92 F s=some (if Y3 s=true then 0 else 8):=by unfold c92;simp only[l98 hF hs,j,l86];cases Y3 s<;>rfl
def Qck(f t:Int):Int:=if(Yj f||Yj t)=true then 3 else if t<f then 11 else 0
theorem Yk5{F:Nat}(hF:400<=F)(n:ByteArray)(f t:Int):Qke F (n,f,t)=some (Qck f t):=by unfold Qke Qck;rw[l85 (by simp[Qa];omega) (by simp[Qa])];simp only[j,l86];rw[l84 (by simp[Qa];omega) (by simp[Qa])];simp only[j,Qa,List.any_cons,List.any_nil,ZI,Qk,decide_eq_true_eq];cases Yj f||Yj t<;>by_cases h:t<f<;>simp[h]
def U4(n:ByteArray)(d:Int)(x:Qw):Bool:=Qc x.1 n&&(decide (x.2.1<=d)&&decide (d<=x.2.2))
theorem l68{F:Nat}{l:List (Qw)}(hF:l.length+400<=F)(hl:l.length<=1000)(n:ByteArray)(d:Int):c68 F (l,n,d)=some (l.any (U4 n d)):=by
 unfold c68;refine Jh l (fun(_:Unit) i=>(i:Int)) (fun x (_:Unit)=>if U4 n d x=true then .inr (.inl true)else .inl ()) (fun _=>(.inr ():Bool ⊕ Unit)) (fun _ _=>True) () (by omega) rfl trivial ?_ ?_ ?_
 ·intro i x _ hi hx _;refine⟨?_,fun _ _=>trivial⟩;simp(disch:=omega)only[Zx,Zf,I,getD_some hx,Zv];unfold U4;cases Qc x.1 n
  ·rfl
  ·by_cases h1:x.2.1<=d
   ·by_cases h2:d<=x.2.2<;>simp[h1,h2]
   ·simp[h1]
 ·intro _ _;simp(disch:=omega)only[Zz]
 ·rw[Qcn];cases l.any (U4 n d)<;>rfl
theorem Zu9{F:Nat}{l:List (Qw)}(hF:l.length+400<=F)(hl:l.length<=1000)(n:ByteArray)(d:Int):Vl F (l,n,d)=some (l.any (U4 n d)):=by
 unfold Vl;refine Jh l (fun(_:Unit) i=>(false,(i:Int))) (fun x (_:Unit)=>if U4 n d x=true then .inr true else .inl ()) (fun _=>false) (fun _ _=>True) () (by omega) rfl trivial ?_ ?_ ?_
 ·intro i x _ hi hx _;refine⟨?_,fun _ _=>trivial⟩;simp(disch:=omega)only[Zx,Zf,I,getD_some hx,Zv];unfold U4;cases Qc x.1 n
  ·rfl
  ·by_cases h1:x.2.1<=d
   ·have h1':¬d<x.2.1:=by omega
    by_cases h2:d<=x.2.2
    ·have h2':¬x.2.2<d:=by omega
     simp[h1,h2,h1',h2']
    ·have h2':x.2.2<d:=by omega
     simp[h1,h2,h1',h2']
   ·have h1':d<x.2.1:=by omega
    simp[h1,h1']
 ·intro _ _;simp(disch:=omega)only[Zz]
 ·rw[Qcn];cases l.any (U4 n d)<;>rfl
end Go.Proofs.Tryz
