/- Plain law: states, in the program and in the reference. -/
import Derived.Test.YtpkbmngnolhopaaGreatDoorXT3c
import Derived.Test.YtpkbmngnolhopaaGreatDoorXTeB1
set_option maxRecDepth 100000
set_option linter.unusedVariables false
set_option linter.unusedSimpArgs false
namespace Go.Proofs.Tryz
open Go Go.Sx
theorem Qps(n:Nat)(x:Int):Zl.eqv ((Exit.normal,({cells:=Ql.slot n (Qe.val (Ty.int IntKind.i64))::Qb Ql,owns:=Qb (Nat×Lk)}:Qi))::Qb (Exit×Qi)) x x=true:=
 Zl.eqv_rf ((Exit.normal,({cells:=Ql.slot n (Qe.val (Ty.int IntKind.i64))::Qb Ql,owns:=Qb (Nat×Lk)}:Qi))::Qb (Exit×Qi)) x
theorem Zqg(a b:ByteArray):Qf a b=Qf b a:=by rw[Qxx,Qxx];exact decide_eq_decide.2 ⟨Eq.symm,Eq.symm⟩
abbrev Ath:=Zu
abbrev Lic:=Zx
abbrev Qy:=Qr
abbrev Tm:=Zh
abbrev Qw:=List ByteArray×List Ath×List Lic×List Qy×List Tm
def dA:Ath:=Xd
def dL:Lic:=(ByteArray.empty,(0:Int),(0:Int))
def dE:Qy:=Zm
def dT:Tm:=(ByteArray.empty,ByteArray.empty,Qb ByteArray)
theorem Uw{α:Type}{l:List α}{i:Nat}(d:α)(hi:i<l.length):l[i]? =some (l.getD i d):=by rw[List.getD_eq_getElem?_getD,List.getElem?_eq_getElem hi];rfl
theorem Qfj{α:Type}{l:List α}{i:Nat}(d:α)(hi:i<l.length):l.getD i d∈l:=List.mem_of_getElem? (Uw d hi)
structure SmS (s:Qw):Prop where
 c:s.1.length≤300
 a:s.2.1.length≤300
 l:s.2.2.1.length≤300
 e:s.2.2.2.1.length≤300
 t:s.2.2.2.2.length≤300
 cn:∀x∈s.1,x.size≤300
 an:∀x∈s.2.1,x.1.size≤300∧x.2.2.2.size≤300
 tn:∀x∈s.2.2.2.2,x.2.2.length≤300
def aI(s:Qw)(x:ByteArray):Int:=Yh (fun y=>Qf y.1 x) s.2.1
def eP(a c:ByteArray)(y:Qy):Bool:=Qf y.1 a&&Qf y.2.1 c
def tP(a c:ByteArray)(y:Tm):Bool:=Qf y.1 a&&Qf y.2.1 c
def eI(s:Qw)(a c:ByteArray):Int:=Yh (eP a c) s.2.2.2.1
def tI(s:Qw)(a c:ByteArray):Int:=Yh (tP a c) s.2.2.2.2
def cI(m:Mt)(x:ByteArray):Int:=Yh (fun y=>Qf y.1 x) m.2.2.2.2
def hasB(l:List ByteArray)(x:ByteArray):Bool:=l.any fun y=>Qf y x
theorem Zj9(l:List ByteArray)(x:ByteArray):(l.any fun y=>Qf x y)=hasB l x:=by unfold hasB;congr 1;funext y;exact Zqg _ _
theorem Qms{F:Nat}(hF:400≤F){l:List ByteArray}{x:ByteArray}(hl:l.length≤300):Wq F (l,x)=some (hasB l x):=by rw[Quo hF hl,Zj9]
theorem Zhd{F:Nat}{l:List Ath}(hF:l.length<F)(hl:l.length≤1000)(x:ByteArray):Qlh F (l,x)=some (Yh (fun y=>Qf y.1 x) l):=by
 unfold Qlh;refine W9 l _ hF ?_ ?_
 ·intro i y hi hy;simp(disch:=omega)only[Ze,Zj,Int.toNat_natCast,getD_some hy,Zb];cases Qf y.1 x<;>rfl
 ·simp(disch:=omega)only[Zd]
theorem Qgo{F:Nat}(hF:400≤F){s:Qw}(h:SmS s)(x:ByteArray):Wz F (s,x)=some (aI s x):=by unfold Wz aI;have:=h.a;simp only[Zhd (F:=F) (l:=s.2.1) (by omega) (by omega),Option.bind_some]
theorem Qs1{F:Nat}(hF:400≤F){s:Qw}(h:SmS s)(x:ByteArray):K6 F (s,x)=some (hasB s.1 x):=by unfold K6;simp only[Qms hF h.c,Option.bind_some]
theorem Zit(F:Nat)(y:Qy)(a c:ByteArray):Qis F (y,a,c)=some (eP a c y):=by unfold Qis eP;cases Qf y.1 a<;>rfl
theorem Zya(F:Nat)(y:Tm)(a c:ByteArray):Qj8 F (y,a,c)=some (tP a c y):=by unfold Qj8 tP;cases Qf y.1 a<;>rfl
theorem Znl{F:Nat}{l:List Qy}(hF:l.length<F)(hl:l.length≤1000)(a c:ByteArray):Qml F (l,a,c)=some (Yh (eP a c) l):=by
 unfold Qml;refine W9 l _ hF ?_ ?_
 ·intro i y hi hy;simp(disch:=omega)only[Ze,Zj,Int.toNat_natCast,getD_some hy,Zb,Zp,Zit,Option.bind_some];cases eP a c y<;>rfl
 ·simp(disch:=omega)only[Zd]
theorem Ztn{F:Nat}{l:List Tm}(hF:l.length<F)(hl:l.length≤1000)(a c:ByteArray):Qj2 F (l,a,c)=some (Yh (tP a c) l):=by
 unfold Qj2;refine W9 l _ hF ?_ ?_
 ·intro i y hi hy;simp(disch:=omega)only[Ze,Zj,Int.toNat_natCast,getD_some hy,Zb,Zp,Zya,Option.bind_some];cases tP a c y<;>rfl
 ·simp(disch:=omega)only[Zd]
theorem Qwi{F:Nat}(hF:400≤F){s:Qw}(h:SmS s)(a c:ByteArray):Jq F (s,a,c)=some (eI s a c):=by unfold Jq eI;have:=h.e;simp only[Znl (F:=F) (l:=s.2.2.2.1) (by omega) (by omega),Option.bind_some]
theorem Znz{F:Nat}(hF:400≤F){s:Qw}(h:SmS s)(a c:ByteArray):Qhh F (s,a,c)=some (tI s a c):=by unfold Qhh tI;have:=h.t;simp only[Ztn (F:=F) (l:=s.2.2.2.2) (by omega) (by omega),Option.bind_some]
def Qfl:Zv:=({data:=List.toArray (Qb UInt8)},{data:=List.toArray (Qb UInt8)},{data:=List.toArray (Qb UInt8)},0,0,0,0,{data:=List.toArray (Qb UInt8)},0,{data:=List.toArray (Qb UInt8)},0)
def cAt(m:Mt)(x:ByteArray):Zv:=m.2.2.2.2.getD (cI m x).toNat dC
theorem Qoq{F:Nat}(hF:400≤F){m:Mt}(hl:m.2.2.2.2.length≤300)(x:ByteArray):Qdg F (m,x)=some (if cI m x<0 then(Qfl,false)else(cAt m x,true)):=by
 have hd:Q2=dC:=rfl;unfold Qdg;simp only[Zy8 (F:=F) (l:=m.2.2.2.2) (by omega) (by omega),Option.bind_some];by_cases h:cI m x<0
 ·have h':Yh (fun y:Zv=>Qf y.1 x) m.2.2.2.2<0:=h;simp only[h,h',decide_true,cond_true,if_true];rfl
 ·have h':¬Yh (fun y:Zv=>Qf y.1 x) m.2.2.2.2<0:=h;obtain⟨k,y,h1,h2,h3,h4⟩:=Qfw (p:=fun y:Zv=>Qf y.1 x) (l:=m.2.2.2.2) (by omega);simp only[h,h',decide_false,cond_false,if_false];unfold cAt cI;simp(disch:=omega)only[h1,Zj,Int.toNat_natCast,hd,Zp]
def W5(l:List ByteArray)(i:Nat):Int:=if Y5 (l.getD i ByteArray.empty)=true then(if hasB (l.take i) (l.getD i ByteArray.empty)=true then 9 else 0)else 8
def Wn(s:Qw)(i:Nat):Int:=
 if Y5 (s.2.1.getD i dA).1=true then
  (if((s.2.1.take i).any fun y=>Qf y.1 (s.2.1.getD i dA).1)=true then 9 else if hasB s.1 (s.2.1.getD i dA).2.1=true then(if Z0 (s.2.1.getD i dA).2.2.1=true then 3 else if Y5 (s.2.1.getD i dA).2.2.2=true then 0 else 8)else 10)
 else 8
def Vc(s:Qw)(i:Nat):Int:=if aI s (s.2.2.1.getD i dL).1<0 then 10 else Qd9 (s.2.2.1.getD i dL).2.1 (s.2.2.1.getD i dL).2.2
def Jm(m:Mt)(s:Qw)(i:Nat):Int:=
 if aI s (s.2.2.2.1.getD i dE).1<0∨cI m (s.2.2.2.1.getD i dE).2.1<0 then 10 else if 0<(cAt m (s.2.2.2.1.getD i dE).2.1).2.2.2.2.2.2.2.2.2.2 then 13
 else if(s.2.2.2.1.take i).any (eP (s.2.2.2.1.getD i dE).1 (s.2.2.2.1.getD i dE).2.1)=true then 9
 else if Jh (s.2.2.2.1.getD i dE).2.2.1 (s.2.2.2.1.getD i dE).2.2.2.1 (s.2.2.2.1.getD i dE).2.2.2.2.1=0 then(if J1 (cAt m (s.2.2.2.1.getD i dE).2.1).2.1 (s.2.2.2.1.getD i dE).2.2.1=true then(if Z0 (s.2.2.2.1.getD i dE).2.2.2.2.2.1=true then 3 else 0)else 13)
 else Jh (s.2.2.2.1.getD i dE).2.2.1 (s.2.2.2.1.getD i dE).2.2.2.1 (s.2.2.2.1.getD i dE).2.2.2.2.1
def Kh(s:Qw)(l:List ByteArray)(i:Nat):Int:=if aI s (l.getD i ByteArray.empty)<0 then 10 else if hasB (l.take i) (l.getD i ByteArray.empty)=true then 9 else 0
def Jz(m:Mt)(s:Qw)(i:Nat):Int:=
 if hasB s.1 (s.2.2.2.2.getD i dT).1=false∨cI m (s.2.2.2.2.getD i dT).2.1<0 then 10 else if(cAt m (s.2.2.2.2.getD i dT).2.1).2.2.2.2.2.2.2.2.2.2=0 then 13
 else if(s.2.2.2.2.take i).any (tP (s.2.2.2.2.getD i dT).1 (s.2.2.2.2.getD i dT).2.1)=true then 9
 else if((s.2.2.2.2.getD i dT).2.2.length:Int)=(cAt m (s.2.2.2.2.getD i dT).2.1).2.2.2.2.2.2.2.2.2.2 then Qn ((List.range (s.2.2.2.2.getD i dT).2.2.length).map (Kh s (s.2.2.2.2.getD i dT).2.2))else 2
theorem Qak{γ:Type}{step:Int→Option (Int ⊕ (Int ⊕ Unit))}{F:Nat}{k:Int ⊕ Unit→Option γ}{r:Option γ}(n:Nat)(e:Nat→Int)(hF:n<F)(hn:n≤1000)
  (hstep:∀(i:Nat),i<n→step (i:Int)=some (if e i=0 then .inl ((i:Int)+1)else .inr (.inl (e i))))
  (hend:step (n:Int)=some (.inr (.inr ())))
  (hk:k (if Qn ((List.range n).map e)=0 then .inr ()else .inl (Qn ((List.range n).map e)))=r):Option.bind (Qq step F 0) k=r:=by
 refine Qr3 (List.range n) e (by simpa using hF) ?_ ?_ hk
 ·intro i x hi hx;obtain rfl:=Qdx hx;exact hstep x (by simpa using hi)
 ·simpa using hend
theorem Qbb(x:Int):Sum.elim (fun(a:Int)=>some a) (fun(_:Unit)=>some (0:Int)) (if x=0 then Sum.inr ()else Sum.inl x)=some x:=by by_cases h:x=0<;>simp[h]
theorem Qdt(x:Int)(a:Int):(bif !decide (x=0)then some (Sum.inr (Sum.inl x):Int ⊕ (Int ⊕ Unit))else some (Sum.inl a))=some (if x=0 then .inl a else .inr (.inl x)):=by by_cases h:x=0<;>simp[h]
theorem Zfo{F:Nat}(hF:400≤F){s:Qw}(h:SmS s){i:Nat}(hi:i<s.1.length):Qmc F ((i:Int),s.1.getD i ByteArray.empty,s)=some (W5 s.1 i):=by
 have h1:=h.c;unfold Qmc W5;have hi':(i:Int)≤s.1.length:=by omega
 simp only[Int.toNat_natCast,List.drop_zero,hi',Int.natCast_nonneg,decide_true,Zw,l92 hF (h.cn _ (Qfj _ hi)),Qms hF (l:=s.1.take i) (x:=s.1.getD i ByteArray.empty) (by simp;omega),l86,Option.bind_some];rw[J0 hF (by simp[Qb])];simp only[Option.bind_some,Qb,Qn];cases Y5 (s.1.getD i ByteArray.empty)
 ·simp
 ·cases hasB (s.1.take i) (s.1.getD i ByteArray.empty)<;>simp
theorem Zoj{F:Nat}(hF:400≤F){s:Qw}(h:SmS s):Qj1 F (s.1,s)=some (Qn ((List.range s.1.length).map (W5 s.1))):=by
 have h1:=h.c;unfold Qj1;refine Qak s.1.length (W5 s.1) (by omega) (by omega) ?_ ?_ (Qbb _)
 ·intro i hi;simp(disch:=omega)only[Ze,Zj,Int.toNat_natCast,Zb,Zp,Zfo hF h hi,Option.bind_some,Qdt]
 ·simp(disch:=omega)only[Zd]
theorem Zqb{F:Nat}(hF:400≤F){s:Qw}(h:SmS s){i:Nat}(hi:i<s.2.1.length):Qll F ((i:Int),s.2.1.getD i dA,s)=some (Wn s i):=by
 have h1:=h.c;obtain⟨hn1,hn2⟩:=h.an _ (Qfj dA hi);have e1:∀x,c85 F (x::Qb Int)=some (if Z0 x=true then 3 else 0):=fun x=>by rw[l85 (by simp[Qb];omega) (by simp[Qb])];simp[Qb]
 have e5:∀a b c d e,Zn F (a::b::c::d::e::Qb Int)=some (Qn [a,b,c,d,e]):=fun a b c d e=>J0 hF (by simp[Qb]);have hlt:=Ud (p:=fun y:Ath=>Qf y.1 (s.2.1.getD i dA).1) (Uw dA hi) (J8 _);unfold Qll Wn tw;simp only[Zp,l92 hF hn1,l92 hF hn2,Qgo hF h,Qs1 hF h,l86,e1,e5,Option.bind_some];rw[show decide (aI s (s.2.1.getD i dA).1<(i:Int))=_ from hlt];generalize Y5 (s.2.1.getD i dA).1=q1;generalize ((s.2.1.take i).any fun y=>Qf y.1 (s.2.1.getD i dA).1)=q2;generalize hasB s.1 (s.2.1.getD i dA).2.1=q3;generalize Z0 (s.2.1.getD i dA).2.2.1=q4;generalize Y5 (s.2.1.getD i dA).2.2.2=q5;have key:Qn [if q1=true then 0 else 8,if q2=true then 9 else 0,if(!q3)=true then 10 else 0,if q4=true then 3 else 0,if q5=true then 0 else 8]=if q1=true then(if q2=true then 9 else if q3=true then(if q4=true then 3 else if q5=true then 0 else 8)else 10)else 8:=by cases q1<;>cases q2<;>cases q3<;>cases q4<;>cases q5<;>rfl
 simp only[key,Option.bind_some,decide_true,Bool.and_self,Zw,Qri,Qnc,Qps]
theorem Zp0{F:Nat}(hF:400≤F){s:Qw}(h:SmS s):Qiw F (s.2.1,s)=some (Qn ((List.range s.2.1.length).map (Wn s))):=by
 have h1:=h.a;have hd:Xd=dA:=rfl;unfold Qiw;refine Qak s.2.1.length (Wn s) (by omega) (by omega) ?_ ?_ (Qbb _)
 ·intro i hi;simp(disch:=omega)only[Ze,Zj,Int.toNat_natCast,Zb,hd,Zp,Zqb hF h hi,Option.bind_some,Qdt]
 ·simp(disch:=omega)only[Zd]
theorem Zew{F:Nat}(hF:400≤F){s:Qw}(h:SmS s)(i:Nat):Qi0 F ((i:Int),s.2.2.1.getD i dL,s)=some (Vc s i):=by
 unfold Qi0 Vc;simp only[Zp,Qgo hF h,l86,Option.bind_some];rw[show Qha F (s.2.2.1.getD i dL)=some (Qd9 (s.2.2.1.getD i dL).2.1 (s.2.2.1.getD i dL).2.2)from Zlm hF _ _ _];simp only[Option.bind_some];rw[J0 hF (by simp[Qb])];simp only[Option.bind_some,Qb,Qn];generalize Qd9 (s.2.2.1.getD i dL).2.1 (s.2.2.1.getD i dL).2.2=w;generalize aI s (s.2.2.1.getD i dL).1=v;by_cases h1:v<0
 ·simp[h1]
 ·by_cases h2:w=0<;>simp[h1,h2]
theorem Zu2{F:Nat}(hF:400≤F){s:Qw}(h:SmS s):Qmw F (s.2.2.1,s)=some (Qn ((List.range s.2.2.1.length).map (Vc s))):=by
 have h1:=h.l;have hd:(ByteArray.empty,(0:Int),(0:Int))=dL:=rfl;unfold Qmw;refine Qak s.2.2.1.length (Vc s) (by omega) (by omega) ?_ ?_ (Qbb _)
 ·intro i hi;simp(disch:=omega)only[Ze,Zj,Int.toNat_natCast,Zb,hd,Zp,Zew hF h,Option.bind_some,Qdt]
 ·simp(disch:=omega)only[Zd]
theorem Zrs{F:Nat}(hF:400≤F){m:Mt}(hm:m.2.2.2.2.length≤300){s:Qw}(h:SmS s){i:Nat}(hi:i<s.2.2.2.1.length):Qi3 F (s,m,(i:Int),s.2.2.2.1.getD i dE)=some (Jm m s i):=by
 have e1:∀x,c85 F (x::Qb Int)=some (if Z0 x=true then 3 else 0):=fun x=>by rw[l85 (by simp[Qb];omega) (by simp[Qb])];simp[Qb]
 have e6:∀a b c d e f,Zn F (a::b::c::d::e::f::Qb Int)=some (Qn [a,b,c,d,e,f]):=fun a b c d e f=>J0 hF (by simp[Qb]);have hlt:=Ud (p:=eP (s.2.2.2.1.getD i dE).1 (s.2.2.2.1.getD i dE).2.1) (Uw dE hi) (by simp[eP,J8]);unfold Qi3 Jm tw;simp only[Zp,Qoq hF hm,Option.bind_some];generalize s.2.2.2.1.getD i dE=x at hlt;have hlt:decide (eI s x.1 x.2.1<(i:Int))=_:=hlt;generalize cAt m x.2.1=ct;generalize hw:(if cI m x.2.1<0 then(Qfl,false)else(ct,true))=w;simp only[l86,l99 hF,Qgo hF h,Zcc,Qwi hF h,e1,e6,hlt,Option.bind_some];generalize hsu:J1 w.1.2.1 x.2.2.1=su;generalize ((s.2.2.2.1.take i).any (eP x.1 x.2.1))=tw;generalize hme:Jh x.2.2.1 x.2.2.2.1 x.2.2.2.2.1=me;generalize Z0 x.2.2.2.2.2.1=db;have ea:(decide (aI s x.1<0))=decide (aI s x.1<0):=rfl;by_cases hc:cI m x.2.1<0
 ·rw[if_pos hc]at hw;subst hw;have k0:∀a b c d e,Qn [10,a,b,c,d,e]=10:=fun _ _ _ _ _=>by simp[Qn]
  simp only[hc,or_true,if_true,Bool.not_false,cond_true,k0,Option.bind_some,decide_true,Bool.and_self,Zw,Qri,Qnc,Qps]
 ·rw[if_neg hc]at hw;subst hw;simp only[hc,or_false,Bool.not_true,cond_false];have key:Qn [if decide (aI s x.1<0)=true then 10 else 0,if decide (0<ct.2.2.2.2.2.2.2.2.2.2)=true then 13 else 0,if tw=true then 9 else 0,me,if(!su)=true then 13 else 0,if db=true then 3 else 0]
    =if aI s x.1<0 then 10 else if 0<ct.2.2.2.2.2.2.2.2.2.2 then 13 else if tw=true then 9 else if me=0 then(if su=true then(if db=true then 3 else 0)else 13)else me:=by
   by_cases g1:aI s x.1<0
   ·simp[g1,Qn]
   ·by_cases g2:0<ct.2.2.2.2.2.2.2.2.2.2
    ·simp[g1,g2,Qn]
    ·cases tw
     ·by_cases g3:me=0
      ·cases su<;>cases db<;>simp[g1,g2,g3,Qn]
      ·simp[g1,g2,g3,Qn]
     ·simp[g1,g2,Qn]
  simp only[hsu,key,Option.bind_some,decide_true,Bool.and_self,Zw,Qri,Qnc,Qps]
theorem Zii{F:Nat}(hF:400≤F){m:Mt}(hm:m.2.2.2.2.length≤300){s:Qw}(h:SmS s):Qio F (s.2.2.2.1,s,m)=some (Qn ((List.range s.2.2.2.1.length).map (Jm m s))):=by
 have h1:=h.e;have hd:Zm=dE:=rfl;have e:∀i,i<s.2.2.2.1.length→Qlq F ((i:Int),s.2.2.2.1.getD i dE,s,m)=some (Jm m s i):=fun i hi=>by unfold Qlq;simp only[Zp,Zrs hF hm h hi,Option.bind_some]
 unfold Qio;refine Qak s.2.2.2.1.length (Jm m s) (by omega) (by omega) ?_ ?_ (Qbb _)
 ·intro i hi;simp(disch:=omega)only[Ze,Zj,Int.toNat_natCast,Zb,hd,Zp,e i hi,Option.bind_some,Qdt]
 ·simp(disch:=omega)only[Zd]
theorem Zn9{F:Nat}(hF:400≤F){s:Qw}(h:SmS s){l:List ByteArray}(hl:l.length≤300)(a b:ByteArray):Qlk F (l,s,a,b,l)=some (Qn ((List.range l.length).map (Kh s l))):=by
 have e:∀i,i<l.length→Qk6 F ((i:Int),l.getD i ByteArray.empty,s,a,b,l)=some (Kh s l i):=fun i hi=>by
  unfold Qk6 Kh;have hi':(i:Int)≤l.length:=by omega
  simp only[Zp,Int.toNat_natCast,List.drop_zero,hi',Int.natCast_nonneg,decide_true,Zw,Qgo hF h,Qms hF (l:=l.take i) (x:=l.getD i ByteArray.empty) (by simp;omega),l86,Option.bind_some];rw[J0 hF (by simp[Qb])];simp only[Option.bind_some,Qb,Qn];generalize aI s (l.getD i ByteArray.empty)=v;generalize hasB (l.take i) (l.getD i ByteArray.empty)=q;by_cases h1:v<0
  ·simp[h1]
  ·cases q<;>simp[h1]
 unfold Qlk;refine Qak l.length (Kh s l) (by omega) (by omega) ?_ ?_ (Qbb _)
 ·intro i hi;simp(disch:=omega)only[Ze,Zj,Int.toNat_natCast,Zb,Zp,e i hi,Option.bind_some,Qdt]
 ·simp(disch:=omega)only[Zd]
theorem Zlx{F:Nat}(hF:400≤F){m:Mt}(hm:m.2.2.2.2.length≤300){s:Qw}(h:SmS s){i:Nat}(hi:i<s.2.2.2.2.length):Qkm F (s,m,(i:Int),s.2.2.2.2.getD i dT)=some (Jz m s i):=by
 have e4:∀a b c d,Zn F (a::b::c::d::Qb Int)=some (Qn [a,b,c,d]):=fun a b c d=>J0 hF (by simp[Qb]);have hlt:=Ud (p:=tP (s.2.2.2.2.getD i dT).1 (s.2.2.2.2.getD i dT).2.1) (Uw dT hi) (by simp[tP,J8]);have hrl:=h.tn _ (Qfj dT hi);unfold Qkm Jz;simp only[Zp,Qoq hF hm,Option.bind_some];generalize s.2.2.2.2.getD i dT=x at hlt hrl;have hlt:decide (tI s x.1 x.2.1<(i:Int))=_:=hlt;generalize cAt m x.2.1=ct;generalize hw:(if cI m x.2.1<0 then(Qfl,false)else(ct,true))=w;simp only[l86,Qs1 hF h,Znz hF h,e4,hlt,Zn9 hF h hrl,Option.bind_some];generalize ((s.2.2.2.2.take i).any (tP x.1 x.2.1))=tw;generalize Qn ((List.range x.2.2.length).map (Kh s x.2.2))=re;by_cases hc:cI m x.2.1<0
 ·rw[if_pos hc]at hw;subst hw;have k0:∀a b c,Qn [10,a,b,c]=10:=fun _ _ _=>by simp[Qn]
  simp[hc,k0]
 ·rw[if_neg hc]at hw;subst hw;simp only[hc,or_false,Bool.not_true,cond_false];cases hasB s.1 x.1
  ·simp[Qn]
  ·by_cases g1:ct.2.2.2.2.2.2.2.2.2.2=0
   ·simp[g1,Qn]
   ·cases tw
    ·by_cases g2:(x.2.2.length:Int)=ct.2.2.2.2.2.2.2.2.2.2
     ·simp[g1,g2,Qn]
     ·simp[g1,g2,Qn]
    ·simp[g1,Qn]
theorem Zmu{F:Nat}(hF:400≤F){m:Mt}(hm:m.2.2.2.2.length≤300){s:Qw}(h:SmS s):Ql6 F (s.2.2.2.2,s,m)=some (Qn ((List.range s.2.2.2.2.length).map (Jz m s))):=by
 have h1:=h.t;have hd:(ByteArray.empty,ByteArray.empty,Qb ByteArray)=dT:=rfl;have e:∀i,i<s.2.2.2.2.length→Qkw F ((i:Int),s.2.2.2.2.getD i dT,s,m)=some (Jz m s i):=fun i hi=>by unfold Qkw;simp only[Zp,Zlx hF hm h hi,Option.bind_some]
 unfold Ql6;refine Qak s.2.2.2.2.length (Jz m s) (by omega) (by omega) ?_ ?_ (Qbb _)
 ·intro i hi;simp(disch:=omega)only[Ze,Zj,Int.toNat_natCast,Zb,hd,Zp,e i hi,Option.bind_some,Qdt]
 ·simp(disch:=omega)only[Zd]
def J9(s:Qw):Prop:=256<s.1.length∨256<s.2.1.length∨256<s.2.2.1.length∨256<s.2.2.2.1.length∨256<s.2.2.2.2.length
instance (s:Qw):Decidable (J9 s):=by unfold J9;infer_instance
def stE(m:Mt)(s:Qw):Int:=
 if mtE m=0 then(if J9 s then 5 else Qn [Qn ((List.range s.1.length).map (W5 s.1)),Qn ((List.range s.2.1.length).map (Wn s)),Qn ((List.range s.2.2.1.length).map (Vc s)),
  Qn ((List.range s.2.2.2.1.length).map (Jm m s)),Qn ((List.range s.2.2.2.2.length).map (Jz m s))])else mtE m
theorem Zza(a b:Int):(256<if a<b then b else a)↔(256<a∨256<b):=by split<;>omega
theorem l25{F:Nat}(hF:400≤F){m:Mt}(hl:m.2.2.2.2.length≤300)(hb:∀x∈m.2.2.2.2,x.1.size≤300∧x.2.2.1.size≤300){s:Qw}(h:SmS s):c25 F (m,s)=some (stE m s):=by
 have e2:∀a b,Zn F (a::b::Qb Int)=some (Qn [a,b]):=fun a b=>J0 hF (by simp[Qb]);have e5:∀a b c d e,Zn F (a::b::c::d::e::Qb Int)=some (Qn [a,b,c,d,e]):=fun a b c d e=>J0 hF (by simp[Qb]);unfold c25 stE;simp only[Zp,l21 hF hl hb,l86,e2,e5,Zoj hF h,Zp0 hF h,Zu2 hF h,Zii hF hl h,Zmu hF hl h,Option.bind_some,Zza];have hm:((((256<(s.1.length:Int)∨256<(s.2.1.length:Int))∨256<(s.2.2.1.length:Int))∨256<(s.2.2.2.1.length:Int))∨256<(s.2.2.2.2.length:Int))↔J9 s:=by unfold J9;omega
 simp only[hm];generalize Qn [Qn ((List.range s.1.length).map (W5 s.1)),Qn ((List.range s.2.1.length).map (Wn s)),Qn ((List.range s.2.2.1.length).map (Vc s)),
  Qn ((List.range s.2.2.2.1.length).map (Jm m s)),Qn ((List.range s.2.2.2.2.length).map (Jz m s))]=w
 by_cases h1:mtE m=0
 ·by_cases h2:J9 s<;>simp[h1,h2,Qn]
 ·simp[h1,Qn]
end Go.Proofs.Tryz
