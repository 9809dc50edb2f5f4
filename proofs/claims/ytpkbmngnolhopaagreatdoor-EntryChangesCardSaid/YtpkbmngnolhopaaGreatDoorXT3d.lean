/- Plain law: states, in the program and in the reference. Plain law: states, in the reference. -/
import Derived.Test.YtpkbmngnolhopaaGreatDoorXT3c
import Derived.Test.YtpkbmngnolhopaaGreatDoorXTeB1
set_option maxRecDepth 100000
set_option linter.unusedVariables false
set_option linter.unusedSimpArgs false
open Option renaming bind_some->j
open Int renaming toNat_natCast->o
open List renaming range->C
open ByteArray renaming empty->I
namespace Go.Proofs.Tryz
open Go Go.Sx
theorem Ziw(n:Nat)(x:Int):Zu.eqv ((Exit.normal,({cells:=Qr.slot n (Qe.val (Ty.int IntKind.i64))::Qa Qr,owns:=Qa (Nat×Lk)}:Qk))::Qa (Exit×Qk)) x x=true:=
 Zu.eqv_rf ((Exit.normal,({cells:=Qr.slot n (Qe.val (Ty.int IntKind.i64))::Qa Qr,owns:=Qa (Nat×Lk)}:Qk))::Qa (Exit×Qk)) x
theorem Qbu(a b:ByteArray):Qc a b=Qc b a:=by rw[Zce,Zce];exact decide_eq_decide.2 ⟨Eq.symm,Eq.symm⟩
abbrev Ath:=Qz
abbrev Lic:=Zb
abbrev Qq:=Qh
abbrev Tm:=Zc
abbrev Qi:=List ByteArray×List Ath×List Lic×List Qq×List Tm
def dA:Ath:=Zw
def dL:Lic:=YP
def dE:Qq:=Q8
def dT:Tm:=YO
theorem Zda{α:Type}{l:List α}{i:Nat}(d:α)(hi:i<l.length):l[i]? =some (l.getD i d):=by rw[List.getD_eq_getElem?_getD,List.getElem?_eq_getElem hi];rfl
theorem Zh9{α:Type}{l:List α}{i:Nat}(d:α)(hi:i<l.length):l.getD i d∈l:=List.mem_of_getElem? (Zda d hi)
structure Zr (s:Qi):Prop where
 c:s.1.length<=300
 a:s.2.1.length<=300
 l:s.2.2.1.length<=300
 e:s.2.2.2.1.length<=300
 t:s.2.2.2.2.length<=300
 cn:∀x∈s.1,x.size<=300
 an:∀x∈s.2.1,x.1.size<=300∧x.2.2.2.size<=300
 tn:∀x∈s.2.2.2.2,x.2.2.length<=300
def aI(s:Qi)(x:ByteArray):Int:=Xc (fun y=>Qc y.1 x) s.2.1
def eP(a c:ByteArray)(y:Qq):Bool:=Qc y.1 a&&Qc y.2.1 c
def tP(a c:ByteArray)(y:Tm):Bool:=Qc y.1 a&&Qc y.2.1 c
def eI(s:Qi)(a c:ByteArray):Int:=Xc (eP a c) s.2.2.2.1
def tI(s:Qi)(a c:ByteArray):Int:=Xc (tP a c) s.2.2.2.2
def cI(m:Mt)(x:ByteArray):Int:=Xc (fun y=>Qc y.1 x) m.2.2.2.2
def hasB(l:List ByteArray)(x:ByteArray):Bool:=l.any fun y=>Qc y x
theorem Ylk(l:List ByteArray)(x:ByteArray):(l.any fun y=>Qc x y)=hasB l x:=by unfold hasB;congr 1;funext y;exact Qbu _ _
theorem Zdb{F:Nat}(hF:400<=F){l:List ByteArray}{x:ByteArray}(hl:l.length<=300):Vv F (l,x)=some (hasB l x):=by rw[Zer hF hl,Ylk]
theorem Yqa{F:Nat}{l:List Ath}(hF:l.length<F)(hl:l.length<=1000)(x:ByteArray):Qpt F (l,x)=some (Xc (fun y=>Qc y.1 x) l):=by
 unfold Qpt;refine Qca l _ hF ?_ ?_
 ·intro i y hi hy;simp(disch:=omega)only[Z3,Zf,o,getD_some hy,Zy];cases Qc y.1 x<;>rfl
 ·simp(disch:=omega)only[Z0]
theorem Qc1{F:Nat}(hF:400<=F){s:Qi}(h:Zr s)(x:ByteArray):Jx F (s,x)=some (aI s x):=by unfold Jx aI;have:=h.a;simp only[Yqa (F:=F) (l:=s.2.1) (by omega) (by omega),j]
theorem Qsd{F:Nat}(hF:400<=F){s:Qi}(h:Zr s)(x:ByteArray):Vu F (s,x)=some (hasB s.1 x):=by unfold Vu;simp only[Zdb hF h.c,j]
theorem Yeu(F:Nat)(y:Qq)(a c:ByteArray):Qnf F (y,a,c)=some (eP a c y):=by unfold Qnf eP;cases Qc y.1 a<;>rfl
theorem Zol(F:Nat)(y:Tm)(a c:ByteArray):Qqq F (y,a,c)=some (tP a c y):=by unfold Qqq tP;cases Qc y.1 a<;>rfl
theorem Yni{F:Nat}{l:List Qq}(hF:l.length<F)(hl:l.length<=1000)(a c:ByteArray):Qnv F (l,a,c)=some (Xc (eP a c) l):=by
 unfold Qnv;refine Qca l _ hF ?_ ?_
 ·intro i y hi hy;simp(disch:=omega)only[Z3,Zf,o,getD_some hy,Zy,Zj,Yeu,j];cases eP a c y<;>rfl
 ·simp(disch:=omega)only[Z0]
theorem Zw2{F:Nat}{l:List Tm}(hF:l.length<F)(hl:l.length<=1000)(a c:ByteArray):Qna F (l,a,c)=some (Xc (tP a c) l):=by
 unfold Qna;refine Qca l _ hF ?_ ?_
 ·intro i y hi hy;simp(disch:=omega)only[Z3,Zf,o,getD_some hy,Zy,Zj,Zol,j];cases tP a c y<;>rfl
 ·simp(disch:=omega)only[Z0]
theorem Qju{F:Nat}(hF:400<=F){s:Qi}(h:Zr s)(a c:ByteArray):Jw F (s,a,c)=some (eI s a c):=by unfold Jw eI;have:=h.e;simp only[Yni (F:=F) (l:=s.2.2.2.1) (by omega) (by omega),j]
theorem Yne{F:Nat}(hF:400<=F){s:Qi}(h:Zr s)(a c:ByteArray):Qh8 F (s,a,c)=some (tI s a c):=by unfold Qh8 tI;have:=h.t;simp only[Zw2 (F:=F) (l:=s.2.2.2.2) (by omega) (by omega),j]
def Zgs:Cst:=(YC,YC,YC,0,0,0,0,YC,0,YC,0)
def Zh(m:Mt)(x:ByteArray):Cst:=m.2.2.2.2.getD (cI m x).toNat dC
theorem Qwc{F:Nat}(hF:400<=F){m:Mt}(hl:m.2.2.2.2.length<=300)(x:ByteArray):Qai F (m,x)=some (if cI m x<0 then(Zgs,false)else(Zh m x,true)):=by
 have hd:Zd=dC:=rfl;unfold Qai;simp only[Ztp (F:=F) (l:=m.2.2.2.2) (by omega) (by omega),j];by_cases h:cI m x<0
 ·have h':Xc (fun y:Cst=>Qc y.1 x) m.2.2.2.2<0:=h;simp only[h,h',decide_true,cond_true,if_true];rfl
 ·have h':¬Xc (fun y:Cst=>Qc y.1 x) m.2.2.2.2<0:=h;obtain⟨k,y,h1,h2,h3,h4⟩:=Wl (p:=fun y:Cst=>Qc y.1 x) (l:=m.2.2.2.2) (by omega);simp only[h,h',decide_false,cond_false,if_false];unfold Zh cI;simp(disch:=omega)only[h1,Zf,o,hd,Zj]
def Qy9(l:List ByteArray)(i:Nat):Int:=if Xk (l.getD i I)=true then(if hasB (l.take i) (l.getD i I)=true then 9 else 0)else 8
def Qyy(s:Qi)(i:Nat):Int:=
 if Xk (s.2.1.getD i dA).1=true then
  (if((s.2.1.take i).any fun y=>Qc y.1 (s.2.1.getD i dA).1)=true then 9 else if hasB s.1 (s.2.1.getD i dA).2.1=true then(if Yq (s.2.1.getD i dA).2.2.1=true then 3 else if Xk (s.2.1.getD i dA).2.2.2=true then 0 else 8)else 10)
 else 8
def Qo3(s:Qi)(i:Nat):Int:=if aI s (s.2.2.1.getD i dL).1<0 then 10 else Qp3 (s.2.2.1.getD i dL).2.1 (s.2.2.1.getD i dL).2.2
def Qbz(m:Mt)(s:Qi)(i:Nat):Int:=
 if aI s (s.2.2.2.1.getD i dE).1<0∨cI m (s.2.2.2.1.getD i dE).2.1<0 then 10 else if 0<(Zh m (s.2.2.2.1.getD i dE).2.1).2.2.2.2.2.2.2.2.2.2 then 13
 else if(s.2.2.2.1.take i).any (eP (s.2.2.2.1.getD i dE).1 (s.2.2.2.1.getD i dE).2.1)=true then 9
 else if Jv (s.2.2.2.1.getD i dE).2.2.1 (s.2.2.2.1.getD i dE).2.2.2.1 (s.2.2.2.1.getD i dE).2.2.2.2.1=0 then(if Jj (Zh m (s.2.2.2.1.getD i dE).2.1).2.1 (s.2.2.2.1.getD i dE).2.2.1=true then(if Yq (s.2.2.2.1.getD i dE).2.2.2.2.2.1=true then 3 else 0)else 13)
 else Jv (s.2.2.2.1.getD i dE).2.2.1 (s.2.2.2.1.getD i dE).2.2.2.1 (s.2.2.2.1.getD i dE).2.2.2.2.1
def Qln(s:Qi)(l:List ByteArray)(i:Nat):Int:=if aI s (l.getD i I)<0 then 10 else if hasB (l.take i) (l.getD i I)=true then 9 else 0
def Qy8(m:Mt)(s:Qi)(i:Nat):Int:=
 if hasB s.1 (s.2.2.2.2.getD i dT).1=false∨cI m (s.2.2.2.2.getD i dT).2.1<0 then 10 else if(Zh m (s.2.2.2.2.getD i dT).2.1).2.2.2.2.2.2.2.2.2.2=0 then 13
 else if(s.2.2.2.2.take i).any (tP (s.2.2.2.2.getD i dT).1 (s.2.2.2.2.getD i dT).2.1)=true then 9
 else if((s.2.2.2.2.getD i dT).2.2.length:Int)=(Zh m (s.2.2.2.2.getD i dT).2.1).2.2.2.2.2.2.2.2.2.2 then Qn ((C (s.2.2.2.2.getD i dT).2.2.length).map (Qln s (s.2.2.2.2.getD i dT).2.2))else 2
theorem Qud{γ:Type}{step:Int->Option (Int ⊕ (Int ⊕ Unit))}{F:Nat}{k:Int ⊕ Unit->Option γ}{r:Option γ}(n:Nat)(e:Nat->Int)(hF:n<F)(hn:n<=1000)
  (hstep:∀(i:Nat),i<n->step (i:Int)=some (if e i=0 then .inl ((i:Int)+1)else .inr (.inl (e i))))
  (hend:step (n:Int)=some (.inr (.inr ())))
  (hk:k (if Qn ((C n).map e)=0 then .inr ()else .inl (Qn ((C n).map e)))=r):Option.bind (Qw step F 0) k=r:=by
 refine Qe8 (C n) e (by simpa using hF) ?_ ?_ hk
 ·intro i x hi hx;obtain rfl:=Qhb hx;exact hstep x (by simpa using hi)
 ·simpa using hend
theorem Zls(x:Int):Sum.elim (fun(a:Int)=>some a) (fun(_:Unit)=>some (0:Int)) (if x=0 then Sum.inr ()else Sum.inl x)=some x:=by by_cases h:x=0<;>simp[h]
theorem Zl3(x:Int)(a:Int):(bif !decide (x=0)then some (Sum.inr (Sum.inl x):Int ⊕ (Int ⊕ Unit))else some (Sum.inl a))=some (if x=0 then .inl a else .inr (.inl x)):=by by_cases h:x=0<;>simp[h]
def K2(s:Qi):Prop:=256<s.1.length∨256<s.2.1.length∨256<s.2.2.1.length∨256<s.2.2.2.1.length∨256<s.2.2.2.2.length
instance (s:Qi):Decidable (K2 s):=by unfold K2;infer_instance
def stE(m:Mt)(s:Qi):Int:=
 if Z4 m=0 then(if K2 s then 5 else Qn [Qn ((C s.1.length).map (Qy9 s.1)),Qn ((C s.2.1.length).map (Qyy s)),Qn ((C s.2.2.1.length).map (Qo3 s)),
  Qn ((C s.2.2.2.1.length).map (Qbz m s)),Qn ((C s.2.2.2.2.length).map (Qy8 m s))])else Z4 m
theorem l40{F:Nat}(hF:400<=F){s:Qi}(h:Zr s)(x:ByteArray):c40 F (s,x)=some (aI s x):=by
 have h1:=h.a;unfold c40 aI;refine Qca s.2.1 _ (by omega) ?_ ?_
 ·intro i y hi hy;simp(disch:=omega)only[Z3,Zf,o,getD_some hy,Zy];cases Qc y.1 x<;>rfl
 ·simp(disch:=omega)only[Z0]
theorem l53{F:Nat}(hF:400<=F){s:Qi}(h:Zr s)(a c:ByteArray):c53 F (s,a,c)=some (eI s a c):=by
 have h1:=h.e;unfold c53 eI;refine Qca s.2.2.2.1 _ (by omega) ?_ ?_
 ·intro i y hi hy;simp(disch:=omega)only[Z3,Zf,o,getD_some hy,Zy];unfold eP;cases Qc y.1 a
  ·rfl
  ·cases Qc y.2.1 c<;>rfl
 ·simp(disch:=omega)only[Z0]
theorem Zrz{F:Nat}(hF:400<=F){s:Qi}(h:Zr s)(a c:ByteArray):Qji F (s,a,c)=some (tI s a c):=by
 have h1:=h.t;unfold Qji tI;refine Qca s.2.2.2.2 _ (by omega) ?_ ?_
 ·intro i y hi hy;simp(disch:=omega)only[Z3,Zf,o,getD_some hy,Zy];unfold tP;cases Qc y.1 a
  ·rfl
  ·cases Qc y.2.1 c<;>rfl
 ·simp(disch:=omega)only[Z0]
theorem l54{F:Nat}(hF:400<=F){l:List ByteArray}(hl:l.length<=300)(x:ByteArray):c54 F (l,x)=some (hasB l x):=by
 unfold c54;refine Jl l (fun(_:Unit) i=>(i:Int)) (fun y (_:Unit)=>if Qc y x=true then .inr (.inl true)else .inl ()) (fun _=>(.inr ():Bool ⊕ Unit)) (fun _ _=>True) () (by omega) rfl trivial ?_ ?_ ?_
 ·intro i y _ hi hy _;refine⟨?_,fun _ _=>trivial⟩;simp(disch:=omega)only[Z3,Zf,o,getD_some hy,Zy];cases Qc y x<;>rfl
 ·intro _ _;simp(disch:=omega)only[Z0]
 ·rw[Qby (fun y=>Qc y x)];unfold hasB;cases l.any fun y=>Qc y x<;>rfl
theorem Zw0{F:Nat}(hF:400<=F)(x:ByteArray):Qeg F x=some (if Xk x=true then 0 else 8):=by unfold Qeg;simp only[l67 hF,j];cases Xk x<;>rfl
theorem Zxi(F:Nat)(x:Int):Qmd F x=some (if Yq x=true then 3 else 0):=by unfold Qmd;simp only[l94,j];cases Yq x<;>rfl
end Go.Proofs.Tryz
