/- Plain law: names and marks, in the program and in the reference. Plain law: days, licences, ages. -/
import Derived.Test.YtpkbmngnolhopaaGreatDoorXTeF
import Derived.Test.YtpkbmngnolhopaaGreatDoorXSxQg
set_option maxRecDepth 100000
set_option linter.unusedVariables false
set_option linter.unusedSimpArgs false
open Decidable renaming decide->j
open Option renaming bind_some->o,bind->ZA
open Bool renaming not_false->C,not_true->R,and_false->ZI,and_true->ZJ,true_and->ZL,or_false->ZM
open Go.Utf8 renaming decode->I
open List renaming length->J,length_range->ZC,getD->ZD,range->ZE,drop_length->ZG,all_eq_not_any_not->ZH
open Int renaming toNat_natCast->U,toNat->ZB
open Sum renaming inr->ZF,inl->ZK,elim->ZN
namespace Go.Proofs.Tryz
open Go Go.Sx
def Qn:List Int->Int
 |[]=>0
 |x::l=>if x=0 then Qn l else x
theorem Qww{l:List Int}{k:Nat}(hk:k<l.length):Qn (l.drop k)=if l.getD k 0=0 then Qn (l.drop (k+1))else l.getD k 0:=by rw[List.drop_eq_getElem_cons hk];simp only[Qn,ZD,List.getElem?_eq_getElem hk,Option.getD_some]
theorem l84{F:Nat}{l:List Int}(hF:l.length<F)(hl:l.length<=1000):Q4 F l=some (Qn l):=by
 unfold Q4;obtain⟨b,h1,h2⟩:=Qk3 (step:=fun(v13:Int)=>bif j (v13<(↑(J l):Int))then(gd (j ((0:Int)<=v13)) (gd (j (v13<(↑(J l):Int))) (gd (j (ZB v13<J l)) (bif ! j (ZD l (ZB v13) (0:Int)=(0:Int))then(some (ZF (ZK (ZD l (ZB v13) (0:Int)))))else(some (ZK (Go.Sx.w64 (v13+(1:Int)))))))))else(some (ZF (ZF Unit.unit))))
  (fun v=>0<=v∧v<=l.length∧Qn l=Qn (l.drop v.toNat)) (fun v=>l.length-v.toNat) (fun b=>ZN (fun(v11:Int)=>some (v11)) (fun(v12:Unit)=>some ((0:Int))) b=some (Qn l))
  (fun v ⟨h0,h1,h2⟩=>by
   by_cases hv:v<l.length
   ·have hk:v.toNat<l.length:=by omega
    simp only[h0,hv,hk,decide_true,cond_true,Q3];rw[Qww hk]at h2;by_cases hz:l.getD v.toNat 0=0
    ·left;refine⟨v+1,?_,⟨by omega,by omega,?_⟩,by omega⟩
     ·simp only[hz,decide_true,R,cond_false];rw[Zy (by omega) (by omega)]
     ·rw[if_pos hz]at h2;rw[h2,show(v+1).toNat=v.toNat+1 by omega]
    ·right;refine⟨.inl (l.getD v.toNat 0),by simp only[hz,decide_false,C,cond_true],?_⟩;rw[if_neg hz]at h2;simp[h2]
   ·right;refine⟨.inr (),by simp only[hv,decide_false,cond_false],?_⟩;have:v.toNat=l.length:=by omega
    rw[this,ZG]at h2;simp[h2,Qn])
  F 0 ⟨by omega,by omega,by simp⟩ (by simpa using hF)
 rw[h1];exact h2
theorem Qvq{F:Nat}{l:List Int}(hF:l.length<F)(hl:l.length<=1000):Vb F l=some (Qn l):=by
 unfold Vb;obtain⟨b,h1,h2⟩:=Qk3 (step:=fun(v13:Int)=>bif j (v13<(↑(J l):Int))then(gd (j ((0:Int)<=v13)) (gd (j (v13<(↑(J l):Int))) (gd (j (ZB v13<J l)) (bif ! j (ZD l (ZB v13) (0:Int)=(0:Int))then(some (ZF (ZK (ZD l (ZB v13) (0:Int)))))else(some (ZK (Go.Sx.w64 (v13+(1:Int)))))))))else(some (ZF (ZF Unit.unit))))
  (fun v=>0<=v∧v<=l.length∧Qn l=Qn (l.drop v.toNat)) (fun v=>l.length-v.toNat) (fun b=>ZN (fun(v11:Int)=>some (v11)) (fun(v12:Unit)=>some ((0:Int))) b=some (Qn l))
  (fun v ⟨h0,h1,h2⟩=>by
   by_cases hv:v<l.length
   ·have hk:v.toNat<l.length:=by omega
    simp only[h0,hv,hk,decide_true,cond_true,Q3];rw[Qww hk]at h2;by_cases hz:l.getD v.toNat 0=0
    ·left;refine⟨v+1,?_,⟨by omega,by omega,?_⟩,by omega⟩
     ·simp only[hz,decide_true,R,cond_false];rw[Zy (by omega) (by omega)]
     ·rw[if_pos hz]at h2;rw[h2,show(v+1).toNat=v.toNat+1 by omega]
    ·right;refine⟨.inl (l.getD v.toNat 0),by simp only[hz,decide_false,C,cond_true],?_⟩;rw[if_neg hz]at h2;simp[h2]
   ·right;refine⟨.inr (),by simp only[hv,decide_false,cond_false],?_⟩;have:v.toNat=l.length:=by omega
    rw[this,ZG]at h2;simp[h2,Qn])
  F 0 ⟨by omega,by omega,by simp⟩ (by simpa using hF)
 rw[h1];exact h2
theorem l30{F:Nat}{l:List Int}(hF:l.length<F)(hl:l.length<=1000):c30 F l=some (Qn l):=by
 unfold c30;obtain⟨b,h1,h2⟩:=Qk3 (step:=fun(v13:Int)=>bif j (v13<(↑(J l):Int))then(gd (j ((0:Int)<=v13)) (gd (j (v13<(↑(J l):Int))) (gd (j (ZB v13<J l)) (bif ! j (ZD l (ZB v13) (0:Int)=(0:Int))then(some (ZF (ZK (ZD l (ZB v13) (0:Int)))))else(some (ZK (Go.Sx.w64 (v13+(1:Int)))))))))else(some (ZF (ZF Unit.unit))))
  (fun v=>0<=v∧v<=l.length∧Qn l=Qn (l.drop v.toNat)) (fun v=>l.length-v.toNat) (fun b=>ZN (fun(v11:Int)=>some (v11)) (fun(v12:Unit)=>some ((0:Int))) b=some (Qn l))
  (fun v ⟨h0,h1,h2⟩=>by
   by_cases hv:v<l.length
   ·have hk:v.toNat<l.length:=by omega
    simp only[h0,hv,hk,decide_true,cond_true,Q3];rw[Qww hk]at h2;by_cases hz:l.getD v.toNat 0=0
    ·left;refine⟨v+1,?_,⟨by omega,by omega,?_⟩,by omega⟩
     ·simp only[hz,decide_true,R,cond_false];rw[Zy (by omega) (by omega)]
     ·rw[if_pos hz]at h2;rw[h2,show(v+1).toNat=v.toNat+1 by omega]
    ·right;refine⟨.inl (l.getD v.toNat 0),by simp only[hz,decide_false,C,cond_true],?_⟩;rw[if_neg hz]at h2;simp[h2]
   ·right;refine⟨.inr (),by simp only[hv,decide_false,cond_false],?_⟩;have:v.toNat=l.length:=by omega
    rw[this,ZG]at h2;simp[h2,Qn])
  F 0 ⟨by omega,by omega,by simp⟩ (by simpa using hF)
 rw[h1];exact h2
def okB(i:Nat)(b:Int):Bool:=(decide (97<=b)&&decide (b<=122))||(decide (65<=b)&&decide (b<=90))||(!decide (i=0)&&(decide (b=95)||(decide (48<=b)&&decide (b<=57))))
def Qx8(s:ByteArray):Bool:=(ZE s.size).all fun i=>okB i ((s.get! i).toNat:Int)
def Xk(s:ByteArray):Bool:=decide (1<=s.size∧s.size<=24)&&Qx8 s
theorem Zgy(i:Nat)(b:Int):okB i b=((decide (97<=b)&&decide (b<=122))||(decide (65<=b)&&decide (b<=90))||(!decide ((i:Int)=0)&&(decide (b=95)||(decide (48<=b)&&decide (b<=57))))):=by simp[okB]
theorem Qhb{n i x:Nat}(h:(ZE n)[i]? =some x):x=i:=by
 by_cases hi:i<n
 ·rw[List.getElem?_range hi]at h;exact(Option.some.inj h).symm
 ·rw[List.getElem?_eq_none (by simp;omega)]at h;cases h
theorem l67{F:Nat}(hF:400<=F){s:ByteArray}:c67 F s=some (Xk s):=by
 unfold c67 Xk;by_cases h:1<=s.size∧s.size<=24
 ·have e:(bif decide ((s.size:Int)<1)then some true else some (decide ((24:Int)<s.size)))=some false:=by
   have h1:¬(s.size:Int)<1:=by omega
   have h2:¬(24:Int)<s.size:=by omega
   simp[h1,h2]
  rw[e];simp only[o,cond_false,h,and_self,decide_true,ZL];refine Jl (ZE s.size) (fun(_:Unit) i=>(i:Int)) (fun x _=>if(!okB x ((s.get! x).toNat:Int))=true then .inr (.inl false)else .inl ()) (fun _=>.inr ()) (fun _ _=>True) () (by simp;omega) rfl trivial ?_ ?_ ?_
  ·intro i x _ hi hx _;obtain rfl:=Qhb hx;simp only[ZC]at hi;refine⟨?_,fun _ _=>trivial⟩;simp(disch:=omega)only[Z3,Zf,U,Zy,Qwh];rw[Zgy];cases decide ((97:Int)<=((s.get! x).toNat:Int))<;>cases decide (((s.get! x).toNat:Int)<=122)<;>cases decide ((65:Int)<=((s.get! x).toNat:Int))<;>cases decide (((s.get! x).toNat:Int)<=90)<;>
    cases decide ((x:Int)=0)<;>cases decide (((s.get! x).toNat:Int)=95)<;>cases decide ((48:Int)<=((s.get! x).toNat:Int))<;>cases decide (((s.get! x).toNat:Int)<=57)<;>rfl
  ·intro _ _;simp(disch:=omega)only[Z0,ZC]
  ·rw[Qby (fun x=>!okB x ((s.get! x).toNat:Int))];unfold Qx8;rw[ZH];cases(ZE s.size).any fun x=>!okB x ((s.get! x).toNat:Int)<;>simp
 ·have e:(bif decide ((s.size:Int)<1)then some true else some (decide ((24:Int)<s.size)))=some true:=by
   by_cases h1:(s.size:Int)<1
   ·simp[h1]
   ·have h2:(24:Int)<s.size:=by omega
    simp[h1,h2]
  rw[e];simp[h]
theorem l98{F:Nat}(hF:400<=F){s:ByteArray}(hs:s.size<=300):c98 F s=some (Xk s):=by
 unfold c98;refine Zq6 (Qx3 (ZE s.size) (fun x (_:Unit)=>if(!okB x ((s.get! x).toNat:Int))=true then .inr (.inl false)else .inl ()) (fun _=>(.inr ():Bool ⊕ Unit)) (fun i _ t=>t=(s,i))
  (fun(a:Bool ⊕ Unit) (b:(ByteArray×Nat)×Bool ⊕ ByteArray×Nat)=>a=b.elim (fun v=>.inl v.2) (fun _=>.inr ())) () (by simp;omega) rfl ?_ ?_ ?_)
 ·intro i x _ t hi hx ht;obtain rfl:=Qhb hx;subst ht;simp only[ZC]at hi;simp(disch:=omega)only[Z3];rw[Zgy];by_cases hb:(s.get! x).toNat<128
  ·rw[Zpx hb];simp only[];by_cases h1:(97:Int)<=((s.get! x).toNat:Int)<;>by_cases h2:((s.get! x).toNat:Int)<=122<;>by_cases h3:(65:Int)<=((s.get! x).toNat:Int)<;>by_cases h4:((s.get! x).toNat:Int)<=90<;>
    by_cases h5:(x:Int)=0<;>by_cases h6:((s.get! x).toNat:Int)=95<;>by_cases h7:((s.get! x).toNat:Int)<48<;>by_cases h8:(57:Int)<((s.get! x).toNat:Int)<;>
    simp only[h1,h2,h3,h4,h5,h6,h7,h8,Int.not_lt.symm,decide_true,decide_false,cond_true,cond_false,R,C,ZJ,ZI,ZL,Bool.false_and,Bool.or_true,ZM,Bool.true_or,Bool.false_or]<;>
    exact⟨_,rfl,rfl⟩
  ·have h2:=Yht hb;have a1:(97:Int)<=((I s x).1:Int):=by omega
   have a2:¬((I s x).1:Int)<=122:=by omega
   have a3:(65:Int)<=((I s x).1:Int):=by omega
   have a4:¬((I s x).1:Int)<=90:=by omega
   have a5:¬((I s x).1:Int)=95:=by omega
   have a6:¬((I s x).1:Int)<48:=by omega
   have a7:(57:Int)<((I s x).1:Int):=by omega
   have b2:¬((s.get! x).toNat:Int)<=122:=by omega
   have b4:¬((s.get! x).toNat:Int)<=90:=by omega
   have b5:¬((s.get! x).toNat:Int)=95:=by omega
   have b6:¬((s.get! x).toNat:Int)<=57:=by omega
   simp only[a1,a2,a3,a4,a5,a6,a7,b2,b4,b5,b6,decide_true,decide_false,cond_true,cond_false,R,C,ZJ,ZI,ZM];by_cases h5:(x:Int)=0<;>simp only[h5,decide_true,decide_false,cond_true,cond_false,R,C,ZJ,ZI,if_true]<;>exact⟨_,rfl,rfl⟩
 ·intro _ t ht;subst ht;simp(disch:=omega)only[Z0,ZC];exact⟨_,rfl,rfl⟩
 ·intro b hb;rw[Qby (fun x=>!okB x ((s.get! x).toNat:Int))]at hb;have e:(bif decide (0<(s.size:Int))then some (decide ((s.size:Int)<=24))else some false)=some (decide (1<=s.size∧s.size<=24)):=by
   by_cases h1:0<(s.size:Int)
   ·have h2:1<=s.size:=by omega
    by_cases h3:s.size<=24
    ·have:(s.size:Int)<=24:=by omega
     simp only[h1,h2,h3,this,decide_true,cond_true,and_self]
    ·have:¬(s.size:Int)<=24:=by omega
     simp only[h1,h2,h3,this,decide_true,cond_true,and_false]
   ·have h2:¬ 1<=s.size:=by omega
    simp only[h1,h2,decide_false,cond_false,false_and]
  unfold Xk Qx8;rw[ZH];cases hany:(ZE s.size).any fun x=>!okB x ((s.get! x).toNat:Int)with
  |true=>
   rw[hany]at hb;cases b with
   |inl v=>simp only[if_true,Sum.elim_inl,Sum.inl.injEq]at hb;exact⟨_,rfl,by rw[<-hb];simp⟩
   |inr v=>simp at hb
  |false=>
   rw[hany]at hb;cases b with
   |inl v=>simp at hb
   |inr v=>exact⟨_,by simp only[Sum.elim_inr,e];rfl,by simp⟩
theorem Zdh{F:Nat}(hF:400<=F){l:List ByteArray}{x:ByteArray}(hl:l.length<=300):∃v,Qqj F (l,x)=some v∧decide (0<=v)=l.any fun y=>Qc x y:=by
 unfold Qqj;refine Qx3 l (fun y (_:Unit)=>if Qc x y=true then .inr true else .inl ()) (fun _=>false) (fun i _ t=>t=(i:Int)) (fun(a:Bool) (b:Int ⊕ Unit)=>decide (0<=b.elim (fun v=>v) (fun _=>-1))=a) () (by omega) rfl ?_ ?_ ?_
 ·intro i y _ t hi hy ht;subst ht;simp(disch:=omega)only[Z3,Zf,U,getD_some hy,Zy];cases Qc x y with
  |true=>exact⟨_,rfl,by simp[Qij]⟩
  |false=>exact⟨_,rfl,by simp[Qij]⟩
 ·intro _ t ht;subst ht;simp(disch:=omega)only[Z0];exact⟨_,rfl,by simp⟩
 ·intro b hb;rw[Qby]at hb;refine⟨b.elim (fun v=>v) (fun _=>-1),by cases b<;>rfl,?_⟩;rw[hb];cases l.any fun y=>Qc x y<;>rfl
def Qd7(r:ByteArray):Bool:=Qc r YS||(Qc r YT||(Qc r YU||Qc r YR))
theorem Ypr(F:Nat)(r:ByteArray):Qpr F r=some (Qd7 r):=by
 unfold Qpr Qd7;cases Qc r YS<;>cases Qc r YT<;>
  cases Qc r YU<;>cases Qc r YR<;>rfl
theorem Zw5{F:Nat}(hF:400<=F)(r:ByteArray):Qm9 F r=some (Qd7 r):=by unfold Qm9 Vv;obtain⟨v,h1,h2⟩:=Zdh hF (l:=YS::YT::YU::YR::Qa ByteArray) (x:=r) (by simp[Qa]);simp only[h1,o,h2];simp[Qa,Qd7]
theorem Zf5(F:Nat)(b:Bool)(e:Int):Jk F (b,e)=some (if b then e else 0):=by unfold Jk;cases b<;>rfl
theorem Zm4(F:Nat)(n lo hi:Int):U0 F (n,lo,hi)=some (decide (n<lo∨hi<n)):=by unfold U0;by_cases h:n<lo<;>by_cases k:hi<n<;>simp[h,k]
def kT:ByteArray:=YK
def kN:ByteArray:=YM
def kL:ByteArray:=YL
def kP:ByteArray:=YN
def k0:ByteArray:=YC
def Jv(k:ByteArray)(v:Int)(r:ByteArray):Int:=
 if Qc k kN=true then(if Qd7 r=false then 1 else if v≠0 then 3 else 0)
 else if Qc k kT=true then(if Qc r k0=false then 1 else if v<1∨863999999<v then 3 else 0)
 else if Qc k kL=true then(if Qc r k0=false then 1 else if v<0∨999999<v then 3 else 0)
 else if Qc k kP=true then(if Qc r k0=false then 1 else if v<0∨99999<v then 3 else 0)
 else 13
theorem Zf8(F:Nat)(k:ByteArray)(v:Int)(r:ByteArray):Qkp F (k,v,r)=some (Jv k v r):=by
 unfold Qkp Qw2 Qxx Jv;simp only[Ypr,o];change (bif Qc k kN then _ else _)=_;cases hN:Qc k kN with
 |true=>
  cases Qd7 r
  ·simp
  ·by_cases h:v=0<;>simp[h]
 |false=>
  change ZA (bif Qc k kT then some (Qc k kT)else(ZA (bif Qc k kL then some (Qc k kL)else some (Qc k kP)) fun(v23:Bool)=>some v23)) (fun v19=>bif v19 then(bif !Qc r k0 then some 1 else(ZA (ZA (bif Qc k kT then some 1 else some 0) fun v21=>bif decide (v<v21)then some true else(ZA (bif Qc k kT then some 863999999 else(bif Qc k kL then some 999999 else some 99999)) fun(v22:Int)=>some (decide (v22<v)))) fun v20=>bif v20 then some 3 else some 0))else some 13)=_;have key:∀lo hi:Int,(ZA (bif decide (v<lo)then some true else some (decide (hi<v))) fun v20=>bif v20 then some (3:Int)else some 0)=some (if v<lo∨hi<v then 3 else 0):=by intro lo hi;by_cases h:v<lo<;>by_cases h':hi<v<;>simp[h,h']
  cases hT:Qc k kT<;>cases hL:Qc k kL<;>cases hP:Qc k kP<;>cases h0:Qc r k0<;>simp only[cond_true,cond_false,o,R,C,key]<;>simp
theorem l99{F:Nat}(hF:400<=F)(k:ByteArray)(v:Int)(r:ByteArray):c99 F (k,v,r)=some (Jv k v r):=by
 unfold c99;simp only[Zw5 hF,Zf5,Zm4,o];rw[Qvq (l:=(if(!Qd7 r)=true then 1 else 0)::(if(!decide (v=0))=true then 3 else 0)::Qa Int) (by simp[Qa];omega) (by simp[Qa])];have q:∀(a b c:Int),Vb F (a::b::c::Qa Int)=some (if a≠0 then a else if b≠0 then b else c):=by intro a b c;rw[Qvq (by simp[Qa];omega) (by simp[Qa])];by_cases ha:a=0<;>by_cases hb:b=0<;>by_cases hc:c=0<;>simp[Qn,Qa,ha,hb,hc]
 simp only[q];change (bif Qc k kN then _ else ZA (bif Qc k kT then _ else(bif Qc k kL then _ else(bif Qc k kP then _ else _))) _)=_;unfold Jv;cases hN:Qc k kN with
 |true=>simp only[cond_true,if_true];cases Qd7 r<;>by_cases h:v=0<;>simp[h,Qn,Qa]
 |false=>
  simp only[cond_false,Bool.false_eq_true,if_false];have g:∀x:Int,gd (Qt.eqv (Qe.val (Ty.int Go.IntKind.i64)::Qa Qe) x x) (some x)=some x:=by
   intro x;have:Qt.eqv (Qe.val (Ty.int Go.IntKind.i64)::Qa Qe) x x=true:=by change Up x x=true;simp[Up]
   rw[this];rfl
  have e0:Qc r YC=Qc r k0:=rfl;have eT:Qc k YK=Qc k kT:=rfl;have eL:Qc k YL=Qc k kL:=rfl;have eP:Qc k YN=Qc k kP:=rfl;simp only[e0,eT,eL,eP];cases hT:Qc k kT<;>cases hL:Qc k kL<;>cases hP:Qc k kP<;>cases h0:Qc r k0<;>simp only[cond_true,cond_false,o,g]<;>simp
theorem Uq(x:Int):Qt.eqv (Qe.val (Ty.int IntKind.i64)::Qa Qe) x x=true:=Qt.eqv_rf (Qe.val (Ty.int IntKind.i64)::Qa Qe) x
theorem Zhq(n:Nat)(x:Int):Yg.eqv (Qr.slot n (Qe.val (Ty.int IntKind.i64))::Qa Qr) x x=true:=Yg.eqv_rf (Qr.slot n (Qe.val (Ty.int IntKind.i64))::Qa Qr) x
theorem Zlj{α:Type}(e:α->Int):∀(l:List α),goL (fun x (_:Unit)=>if e x=0 then(.inl ():Unit ⊕ (Int ⊕ Unit))else .inr (.inl (e x))) (fun _=>.inr ()) l ()=if Qn (l.map e)=0 then .inr ()else .inl (Qn (l.map e))
 |[]=>rfl
 |x::l=>by
  rw[Qkf,List.map_cons];simp only[Qn];by_cases h:e x=0
  ·simp only[h,if_true];exact Zlj e l
  ·simp only[h,if_false]
theorem Qe8{α γ:Type}{step:Int->Option (Int ⊕ (Int ⊕ Unit))}{F:Nat}{k:Int ⊕ Unit->Option γ}{r:Option γ}(l:List α)(e:α->Int)(hF:l.length<F)
  (hstep:∀(i:Nat) x,i<l.length->l[i]? =some x->step (i:Int)=some (if e x=0 then .inl ((i:Int)+1)else .inr (.inl (e x))))
  (hend:step (l.length:Int)=some (.inr (.inr ())))
  (hk:k (if Qn (l.map e)=0 then .inr ()else .inl (Qn (l.map e)))=r):ZA (Qw step F 0) k=r:=by
 refine Jl l (fun(_:Unit) i=>(i:Int)) (fun x (_:Unit)=>if e x=0 then .inl ()else .inr (.inl (e x))) (fun _=>.inr ()) (fun _ _=>True) () hF rfl trivial ?_ ?_ ?_
 ·intro i x _ hi hx _;refine⟨?_,fun _ _=>trivial⟩;rw[hstep i x hi hx];by_cases h:e x=0
  ·simp only[h,if_true];rfl
  ·simp only[h,if_false]
 ·intro _ _;exact hend
 ·rw[Zlj];exact hk
def Yq(n:Int):Bool:=decide (n<0)||decide (99999<n)
theorem Yq2(F:Nat)(n:Int):Qnx F n=some (Yq n):=by unfold Qnx Yq;by_cases h:n<0<;>simp[h]
theorem l94(F:Nat)(n:Int):c94 F (n,99999)=some (Yq n):=by unfold c94 Yq;by_cases h:n<0<;>simp[h]
theorem Yph{F:Nat}{l:List Int}(hF:l.length<F)(hl:l.length<=1000):∃v,Qnb F l=some v∧decide (0<=v)=l.any Yq:=by
 unfold Qnb;refine Qx3 l (fun y (_:Unit)=>if Yq y=true then .inr true else .inl ()) (fun _=>false) (fun i _ t=>t=(i:Int)) (fun(a:Bool) (b:Int ⊕ Unit)=>decide (0<=b.elim (fun v=>v) (fun _=>-1))=a) () (by omega) rfl ?_ ?_ ?_
 ·intro i y _ t hi hy ht;subst ht;simp(disch:=omega)only[Z3,Zf,U,getD_some hy,Zy,Yq2,o];cases Yq y with
  |true=>exact⟨_,rfl,by simp[Qij]⟩
  |false=>exact⟨_,rfl,by simp[Qij]⟩
 ·intro _ t ht;subst ht;simp(disch:=omega)only[Z0];exact⟨_,rfl,by simp⟩
 ·intro b hb;rw[Qby]at hb;refine⟨b.elim (fun v=>v) (fun _=>-1),by cases b<;>rfl,?_⟩;rw[hb];cases l.any Yq<;>rfl
theorem l86(F:Nat)(b:Bool)(e:Int):Qm F (b,e)=some (if b=true then e else 0):=by unfold Qm;cases b<;>rfl
theorem l39(F:Nat)(b:Bool)(e:Int):c39 F (b,e)=some (if b=true then e else 0):=by unfold c39;cases b<;>rfl
theorem l85{F:Nat}{l:List Int}(hF:l.length<F)(hl:l.length<=1000):Yf F l=some (if l.any Yq=true then 3 else 0):=by unfold Yf Qwi;obtain⟨v,h1,h2⟩:=Yph hF hl;simp only[h1,h2,o,l86]
theorem l92{F:Nat}(hF:400<=F){s:ByteArray}(hs:s.size<=300):c92 F s=some (if Xk s=true then 0 else 8):=by unfold c92;simp only[l98 hF hs,o,l86];cases Xk s<;>rfl
def Qp3(f t:Int):Int:=if(Yq f||Yq t)=true then 3 else if t<f then 11 else 0
def Uj(n:ByteArray)(d:Int)(x:Zb):Bool:=Qc x.1 n&&(decide (x.2.1<=d)&&decide (d<=x.2.2))
theorem l68{F:Nat}{l:List (Zb)}(hF:l.length+400<=F)(hl:l.length<=1000)(n:ByteArray)(d:Int):c68 F (l,n,d)=some (l.any (Uj n d)):=by
 unfold c68;refine Jl l (fun(_:Unit) i=>(i:Int)) (fun x (_:Unit)=>if Uj n d x=true then .inr (.inl true)else .inl ()) (fun _=>(.inr ():Bool ⊕ Unit)) (fun _ _=>True) () (by omega) rfl trivial ?_ ?_ ?_
 ·intro i x _ hi hx _;refine⟨?_,fun _ _=>trivial⟩;simp(disch:=omega)only[Z3,Zf,U,getD_some hx,Zy];unfold Uj;cases Qc x.1 n
  ·rfl
  ·by_cases h1:x.2.1<=d
   ·by_cases h2:d<=x.2.2<;>simp[h1,h2]
   ·simp[h1]
 ·intro _ _;simp(disch:=omega)only[Z0]
 ·rw[Qby];cases l.any (Uj n d)<;>rfl
theorem Yl2{F:Nat}{l:List (Zb)}(hF:l.length+400<=F)(hl:l.length<=1000)(n:ByteArray)(d:Int):W7 F (l,n,d)=some (l.any (Uj n d)):=by
 unfold W7;refine Jl l (fun(_:Unit) i=>(false,(i:Int))) (fun x (_:Unit)=>if Uj n d x=true then .inr true else .inl ()) (fun _=>false) (fun _ _=>True) () (by omega) rfl trivial ?_ ?_ ?_
 ·intro i x _ hi hx _;refine⟨?_,fun _ _=>trivial⟩;simp(disch:=omega)only[Z3,Zf,U,getD_some hx,Zy];unfold Uj;cases Qc x.1 n
  ·rfl
  ·by_cases h1:x.2.1<=d
   ·have h1':¬d<x.2.1:=by omega
    by_cases h2:d<=x.2.2
    ·have h2':¬x.2.2<d:=by omega
     simp[h1,h2,h1',h2']
    ·have h2':x.2.2<d:=by omega
     simp[h1,h2,h1',h2']
   ·have h1':d<x.2.1:=by omega
    simp[h1,h1']
 ·intro _ _;simp(disch:=omega)only[Z0]
 ·rw[Qby];cases l.any (Uj n d)<;>rfl
end Go.Proofs.Tryz
