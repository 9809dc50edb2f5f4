/- Plain law: Next by kinds. Plain law: room for a meeting and a state. And further parts. -/
import Derived.Test.YtpkbmngnolhopaaGreatDoorXTeD62
import Derived.Test.YtpkbmngnolhopaaGreatDoorXT3f
import Derived.Test.YtpkbmngnolhopaaGreatDoorXT3n
set_option maxRecDepth 100000
set_option linter.unusedVariables false
set_option linter.unusedSimpArgs false
open Option renaming bind_some->o,bind->R
open Bool renaming and_self->C,true_and->ZA,and_true->ZB,eq_false_iff->ZC,not_true->ZL
open Nat renaming le_refl->I,zero_add->J
open Int renaming toNat_natCast->U
open List renaming eq_nil_of_length_eq_zero->ZD,drop_zero->ZE,length_set->ZF,take->ZG,take_length->ZH,take_of_length_le->ZI,drop->ZJ,replicate->ZK
namespace Go.Proofs.Tryz
open Go Go.Sx
theorem Zsj{F:Nat}{l:List ByteArray}(h:l.length<=1000):Ql8 F l=some l:=by
 have h1:l.length*16<=140737488355328:=by omega
 have h2:l.length<=9223372036854775807:=by omega
 unfold Ql8;simp only[Qlq,h1,h2,decide_true,Zb,o];by_cases h0:l.length=0
 ·obtain rfl:=ZD h0;rfl
 ·simp only[h0,decide_false,cond_false]
theorem Zaj{F:Nat}{l:List Ath}(h:l.length<=1000):Qgz F l=some l:=by
 have h1:l.length*56<=140737488355328:=by omega
 have h2:l.length<=9223372036854775807:=by omega
 unfold Qgz;simp only[Qlq,h1,h2,decide_true,Zb,o];by_cases h0:l.length=0
 ·obtain rfl:=ZD h0;rfl
 ·simp only[h0,decide_false,cond_false]
theorem Zqy{F:Nat}{l:List Lic}(h:l.length<=1000):Qjz F l=some l:=by
 have h1:l.length*32<=140737488355328:=by omega
 have h2:l.length<=9223372036854775807:=by omega
 unfold Qjz;simp only[Qlq,h1,h2,decide_true,Zb,o];by_cases h0:l.length=0
 ·obtain rfl:=ZD h0;rfl
 ·simp only[h0,decide_false,cond_false]
theorem Quo{F:Nat}{l:List Qr}(h:l.length<=1000):Qfv F l=some l:=by
 have h1:l.length*88<=140737488355328:=by omega
 have h2:l.length<=9223372036854775807:=by omega
 unfold Qfv;simp only[Qlq,h1,h2,decide_true,Zb,o];by_cases h0:l.length=0
 ·obtain rfl:=ZD h0;rfl
 ·simp only[h0,decide_false,cond_false]
def Uz(s:Qh)(b:Q0):Qh:=(s.1++[b.2.2.1],s.2)
def U1(s:Qh)(b:Q0):Qh:=(s.1,s.2.1++[(b.2.1,b.2.2.1,b.2.2.2.2.2.1,b.2.2.2.1)],s.2.2)
def Qbh(s:Qh)(b:Q0):Qh:=(s.1,s.2.1,s.2.2.1++[(b.2.1,b.2.2.2.2.2.1,b.2.2.2.2.2.2.1)],s.2.2.2)
def U5(s:Qh)(b:Q0):Qh:=(s.1,s.2.1.set (aI s b.2.1).toNat ((Yy s b.2.1).1,b.2.2.1,(Yy s b.2.1).2.2.1,(Yy s b.2.1).2.2.2),s.2.2)
def Qa2(s:Qh)(b:Q0):Qh:=(s.1,s.2.1,s.2.2.1,s.2.2.2.1++[(b.2.1,b.2.2.2.2.1,b.2.2.2.2.2.2.2.1,b.2.2.2.2.2.2.2.2.1,b.2.2.2.2.2.2.2.2.2.1,b.1,false)],s.2.2.2.2)
def Qcm(s:Qh)(b:Q0):Qh:=(s.1,s.2.1,s.2.2.1,s.2.2.2.1.take (eI s b.2.1 b.2.2.2.2.1).toNat++s.2.2.2.1.drop ((eI s b.2.1 b.2.2.2.2.1).toNat+1),s.2.2.2.2)
def Qnh(e:Qr):Qr:=(e.1,e.2.1,e.2.2.1,e.2.2.2.1,e.2.2.2.2.1,e.2.2.2.2.2.1,true)
def Qas(s:Qh)(b:Q0):Qh:=(s.1,s.2.1,s.2.2.1,s.2.2.2.1.set (eI s b.2.1 b.2.2.2.2.1).toNat (Qnh (Vn s b.2.1 b.2.2.2.2.1)),s.2.2.2.2)
def Qaa(s:Qh)(b:Q0):Qh:=(s.1,s.2.1,s.2.2.1,s.2.2.2.1,if tI s b.2.2.1 b.2.2.2.2.1<0 then s.2.2.2.2++[(b.2.2.1,b.2.2.2.2.1,b.2.2.2.2.2.2.2.2.2.2)]else s.2.2.2.2.set (tI s b.2.2.1 b.2.2.2.2.1).toNat (b.2.2.1,b.2.2.2.2.1,b.2.2.2.2.2.2.2.2.2.2))
theorem tk{α:Type}(l:List α):ZG l.length (ZJ 0 l)=l:=by rw[ZE,ZH]
theorem Qrm(y:List Ath):Qt.eqv (Qe.val (Ty.seq kt3)::Qa Qe) y y=true:=Qt.eqv_rf (Qe.val (Ty.seq kt3)::Qa Qe) y
theorem Qn6(y:List Lic):Qt.eqv (Qe.val (Ty.seq kt2)::Qa Qe) y y=true:=Qt.eqv_rf (Qe.val (Ty.seq kt2)::Qa Qe) y
theorem Qpm(y:List Qr):Qt.eqv (Qe.val (Ty.seq Zx)::Qa Qe) y y=true:=Qt.eqv_rf (Qe.val (Ty.seq Zx)::Qa Qe) y
theorem Qle(y:List Tm):Qt.eqv (Qe.val (Ty.seq kt9)::Qa Qe) y y=true:=Qt.eqv_rf (Qe.val (Ty.seq kt9)::Qa Qe) y
theorem Ybx{F:Nat}{s:Qh}(h:Zh s)(k:ByteArray)(b:Q0):Qi6 F ((b.1,k,b.2),s)=some (Uz s b):=by
 have h1:=h.c;have hl:(s.1++[b.2.2.1]).length<=301:=by simp;omega
 have e:∀y:ByteArray,y::Qa ByteArray=[y]:=fun _=>rfl;have n:∀l:List ByteArray,Qa ByteArray++l=l:=fun _=>rfl;unfold Qi6 Qy5 Uz;simp(disch:=omega)only[Za,Zsj (F:=F) (l:=s.1) (by omega),e,Ze,tk,J,I,decide_true,C,Zb,o,Qrm,Qn6,Qpm,Qle]
theorem Yg4{F:Nat}{s:Qh}(h:Zh s)(b:Q0):Qia F (s,b)=some (Uz s b):=by
 have h1:=h.c;have hl:(s.1++[b.2.2.1]).length<=301:=by simp;omega
 have e:∀y:ByteArray,y::Qa ByteArray=[y]:=fun _=>rfl;have n:∀l:List ByteArray,Qa ByteArray++l=l:=fun _=>rfl;unfold Qia Uz tw;simp(disch:=omega)only[Za,n,e,Ze,tk,J,I,decide_true,C,ZA,ZB,Zb,o,Qd1]
theorem Zrm{F:Nat}{s:Qh}(h:Zh s)(k:ByteArray)(b:Q0):Qgo F ((b.1,k,b.2),s)=some (U1 s b):=by
 have h1:=h.a;have hl:(s.2.1++[(b.2.1,b.2.2.1,b.2.2.2.2.2.1,b.2.2.2.1)]).length<=301:=by simp;omega
 have e:∀y:Ath,y::Qa Ath=[y]:=fun _=>rfl;have n:∀l:List Ath,Qa Ath++l=l:=fun _=>rfl;unfold Qgo Qx2 U1 tw;simp(disch:=omega)only[Za,Zaj (F:=F) (l:=s.2.1) (by omega),e,Ze,tk,J,I,decide_true,C,Zb,o,Qrm,Qn6,Qpm,Qle]
theorem Ydd{F:Nat}{s:Qh}(h:Zh s)(b:Q0):Qg5 F (s,b)=some (U1 s b):=by
 have h1:=h.a;have hl:(s.2.1++[(b.2.1,b.2.2.1,b.2.2.2.2.2.1,b.2.2.2.1)]).length<=301:=by simp;omega
 have e:∀y:Ath,y::Qa Ath=[y]:=fun _=>rfl;have n:∀l:List Ath,Qa Ath++l=l:=fun _=>rfl;unfold Qg5 U1 tw;simp(disch:=omega)only[Za,n,e,Ze,tk,J,I,decide_true,C,ZA,ZB,Zb,o,Qd1]
theorem Zsk{F:Nat}{s:Qh}(h:Zh s)(k:ByteArray)(b:Q0):Qi3 F ((b.1,k,b.2),s)=some (Qbh s b):=by
 have h1:=h.l;have hl:(s.2.2.1++[(b.2.1,b.2.2.2.2.2.1,b.2.2.2.2.2.2.1)]).length<=301:=by simp;omega
 have e:∀y:Lic,y::Qa Lic=[y]:=fun _=>rfl;have n:∀l:List Lic,Qa Lic++l=l:=fun _=>rfl;unfold Qi3 Qyo Qbh tw;simp(disch:=omega)only[Za,Zqy (F:=F) (l:=s.2.2.1) (by omega),e,Ze,tk,J,I,decide_true,C,Zb,o,Qrm,Qn6,Qpm,Qle]
theorem Zsc{F:Nat}{s:Qh}(h:Zh s)(b:Q0):Qjf F (s,b)=some (Qbh s b):=by
 have h1:=h.l;have hl:(s.2.2.1++[(b.2.1,b.2.2.2.2.2.1,b.2.2.2.2.2.2.1)]).length<=301:=by simp;omega
 have e:∀y:Lic,y::Qa Lic=[y]:=fun _=>rfl;have n:∀l:List Lic,Qa Lic++l=l:=fun _=>rfl;unfold Qjf Qbh tw;simp(disch:=omega)only[Za,n,e,Ze,tk,J,I,decide_true,C,ZA,ZB,Zb,o,Qd1]
theorem Yig{F:Nat}{s:Qh}(h:Zh s)(k:ByteArray)(b:Q0):Qh4 F ((b.1,k,b.2),s)=some (Qa2 s b):=by
 have h1:=h.e;have hl:(s.2.2.2.1++[(b.2.1,b.2.2.2.2.1,b.2.2.2.2.2.2.2.1,b.2.2.2.2.2.2.2.2.1,b.2.2.2.2.2.2.2.2.2.1,b.1,false)]).length<=301:=by simp;omega
 have e:∀y:Qr,y::Qa Qr=[y]:=fun _=>rfl;have n:∀l:List Qr,Qa Qr++l=l:=fun _=>rfl;unfold Qh4 Qv8 Qa2 tw;simp(disch:=omega)only[Za,Quo (F:=F) (l:=s.2.2.2.1) (by omega),e,Ze,tk,J,I,decide_true,C,Zb,o,Qrm,Qn6,Qpm,Qle]
theorem Zwy{F:Nat}{s:Qh}(h:Zh s)(b:Q0):Qhk F (s,b)=some (Qa2 s b):=by
 have h1:=h.e;have hl:(s.2.2.2.1++[(b.2.1,b.2.2.2.2.1,b.2.2.2.2.2.2.2.1,b.2.2.2.2.2.2.2.2.1,b.2.2.2.2.2.2.2.2.2.1,b.1,false)]).length<=301:=by simp;omega
 have e:∀y:Qr,y::Qa Qr=[y]:=fun _=>rfl;have n:∀l:List Qr,Qa Qr++l=l:=fun _=>rfl;unfold Qhk Qa2 tw;simp(disch:=omega)only[Za,n,e,Ze,tk,J,I,decide_true,C,ZA,ZB,Zb,o,Qd1]
theorem Qhb{α:Type}(l:List α)(j:Nat)(x:α):ZG l.length (l.set j x)=l.set j x:=by rw[ZI (by rw[ZF];exact I _)]
theorem Zxn{F:Nat}(hF:400<=F){s:Qh}(h:Zh s)(k:ByteArray){b:Q0}(hx:0<=aI s b.2.1):Qir F ((b.1,k,b.2),s)=some (U5 s b):=by
 have h1:=h.a;obtain⟨j,j1,j2⟩:=Qeq hx;have hd:Yf=dA:=rfl;have hA:s.2.1.getD j dA=Yy s b.2.1:=by unfold Yy;rw[j1];rfl
 unfold Qir U5;simp only[Za,Zaj (F:=F) (l:=s.2.1) (by omega),tk,Ko hF h,hd,j1,J,I,decide_true,C,Zb,o];have hlen:(s.2.1.set j ((Yy s b.2.1).1,b.2.2.1,(Yy s b.2.1).2.2.1,(Yy s b.2.1).2.2.2)).length=s.2.1.length:=ZF;simp(disch:=omega)only[Ze,U,hA,hlen,I,decide_true,C,ZA,ZB,Zb,ZE,Qhb]
theorem Yeg{F:Nat}(hF:400<=F){s:Qh}(h:Zh s){b:Q0}(hx:0<=aI s b.2.1):Qgm F (s,b)=some (U5 s b):=by
 have h1:=h.a;obtain⟨j,j1,j2⟩:=Qeq hx;have hd:Yf=dA:=rfl;have hA:s.2.1.getD j dA=Yy s b.2.1:=by unfold Yy;rw[j1];rfl
 have n:∀l:List Ath,Qa Ath++l=l:=fun _=>rfl;unfold Qgm U5;have hlen:(s.2.1.set j ((Yy s b.2.1).1,b.2.2.1,(Yy s b.2.1).2.2.1,(Yy s b.2.1).2.2.2)).length=s.2.1.length:=ZF;simp(disch:=omega)only[Za,n,tk,l40 hF h,hd,j1,Ze,U,hA,hlen,J,I,decide_true,C,ZA,ZB,Zb,o,ZE,ZH,Qhb]
theorem Qro{s:Qh}{a c:ByteArray}(h:0<=eI s a c):∃k:Nat,eI s a c=k∧k<s.2.2.2.1.length:=by obtain⟨k,y,h1,h2,h3,h4⟩:=Wf (p:=eP a c) (l:=s.2.2.2.1) h;exact⟨k,h1,h2⟩
theorem Yjs{F:Nat}(hF:400<=F){s:Qh}(h:Zh s)(k:ByteArray){b:Q0}(hx:0<=eI s b.2.1 b.2.2.2.2.1):Qid F ((b.1,k,b.2),s)=some (Qas s b):=by
 have h1:=h.e;obtain⟨j,j1,j2⟩:=Qro hx;have hA:s.2.2.2.1.getD j dE=Vn s b.2.1 b.2.2.2.2.1:=by unfold Vn;rw[j1];rfl
 unfold Qid Qas Qnh;simp only[Za,Quo (F:=F) (l:=s.2.2.2.1) (by omega),tk,Qij hF h,tE,j1,J,I,decide_true,C,Zb,o];generalize hy:(Vn s b.2.1 b.2.2.2.2.1)=y at hA;have hlen:(s.2.2.2.1.set j (y.1,y.2.1,y.2.2.1,y.2.2.2.1,y.2.2.2.2.1,y.2.2.2.2.2.1,true)).length=s.2.2.2.1.length:=ZF;simp(disch:=omega)only[Ze,U,hA,hlen,I,decide_true,C,ZA,ZB,Zb,ZE,Qhb]
theorem Yoo{F:Nat}(hF:400<=F){s:Qh}(h:Zh s){b:Q0}(hx:0<=eI s b.2.1 b.2.2.2.2.1):Qhd F (s,b)=some (Qas s b):=by
 have h1:=h.e;obtain⟨j,j1,j2⟩:=Qro hx;have hA:s.2.2.2.1.getD j dE=Vn s b.2.1 b.2.2.2.2.1:=by unfold Vn;rw[j1];rfl
 have n:∀l:List Qr,Qa Qr++l=l:=fun _=>rfl;unfold Qhd Qas Qnh;generalize hy:(Vn s b.2.1 b.2.2.2.2.1)=y at hA;have hlen:(s.2.2.2.1.set j (y.1,y.2.1,y.2.2.1,y.2.2.2.1,y.2.2.2.2.1,y.2.2.2.2.2.1,true)).length=s.2.2.2.1.length:=ZF;simp(disch:=omega)only[Za,n,tk,l53 hF h,tE,j1,Ze,U,hA,hlen,J,I,decide_true,C,ZA,ZB,Zb,o,ZE,ZH,Qhb]
theorem Zk1{α:Type}{A X Y:List α}{n:Nat}(h:n<=A.length):ZG n (ZJ 0 (ZG n A++X++Y))=ZG n A:=by rw[ZE,List.append_assoc,List.take_append_of_le_length (by rw[List.length_take];omega),List.take_take,Nat.min_self]
theorem Yaf{α:Type}{L:List α}{j:Nat}(h:j<L.length):ZG (j+(L.length-(j+1))) (Wh L j (j+1) (L.length-(j+1)))=L.take j++L.drop (j+1):=by have e:(L.drop (j+1)).take (L.length-(j+1))=L.drop (j+1):=ZI (by rw[List.length_drop];omega);unfold Wh;rw[e];exact List.take_left' (by simp;omega)
theorem Ymp{F:Nat}(hF:400<=F){s:Qh}(h:Zh s)(k:ByteArray){b:Q0}(hx:0<=eI s b.2.1 b.2.2.2.2.1):Qjm F ((b.1,k,b.2),s)=some (Qcm s b):=by
 have h1:=h.e;obtain⟨j,j1,j2⟩:=Qro hx;have hw:w64 ((j:Int)+1)=((j+1:Nat):Int):=by rw[Zu (by omega) (by omega)];rfl
 have hne:¬((j:Nat):Int)=((j+1:Nat):Int):=by omega
 unfold Qjm Qcm;simp only[Za,Quo (F:=F) (l:=s.2.2.2.1) (by omega),tk,Qij hF h,tE,j1,hw,hne,J,Nat.sub_zero,U,I,decide_true,decide_false,cond_false,C,Zb,o];generalize s.2.2.2.1=L at h1 j2;by_cases p1:L.length-(j+1)=0
 ·have hA:∀z:Qr,j<=(ZG j L++ZK (L.length-j) z++ZJ (j+(L.length-j)) L).length:=by intro z;simp;omega
  have hB:ZJ (j+1) L=[]:=List.drop_of_length_le (by omega);simp(disch:=omega)only[Ze,p1,hA,Zk1 (show j<=L.length by omega),hB,List.append_nil,I,decide_true,cond_true,C,ZA,ZB,Zb,o]
 ·have hm1:(Wh L j (j+1) (L.length-(j+1))).length=L.length:=Qpt (by omega) (by omega);have hA:∀z:Qr,j+(L.length-(j+1))<=(ZG (j+(L.length-(j+1))) (Wh L j (j+1) (L.length-(j+1)))++ZK (L.length-(j+(L.length-(j+1)))) z++ZJ (j+(L.length-(j+1))+(L.length-(j+(L.length-(j+1))))) (Wh L j (j+1) (L.length-(j+1)))).length:=by intro z;simp[hm1];omega
  simp(disch:=omega)only[Ze,p1,hA,hm1,Zk1 (A:=Wh L j (j+1) (L.length-(j+1))) (show j+(L.length-(j+1))<=_ by rw[hm1];omega),I,decide_true,decide_false,cond_false,C,ZA,ZB,Zb,o];rw[Yaf j2]
theorem Yad{F:Nat}(hF:400<=F){s:Qh}(h:Zh s){b:Q0}(hx:0<=eI s b.2.1 b.2.2.2.2.1):Qg8 F (s,b)=some (Qcm s b):=by
 have h1:=h.e;obtain⟨j,j1,j2⟩:=Qro hx;have hw:w64 ((j:Int)+1)=((j+1:Nat):Int):=by rw[Zu (by omega) (by omega)];rfl
 have n:∀l:List Qr,Qa Qr++l=l:=fun _=>rfl;unfold Qg8 Qcm;simp only[Za,n,tk,l53 hF h,tE,j1,hw,J,Nat.sub_zero,U,I,decide_true,decide_false,cond_false,C,Zb,o];have hl1:(s.2.2.2.1.take j).length<=300:=by simp;omega
 have hl2:(s.2.2.2.1.take j++s.2.2.2.1.drop (j+1)).length<=300:=by simp;omega
 simp(disch:=omega)only[ZE,ZH,Ze]
theorem Zks{s:Qh}{a c:ByteArray}(h:0<=tI s a c):∃k:Nat,tI s a c=k∧k<s.2.2.2.2.length:=by obtain⟨k,y,h1,h2,h3,h4⟩:=Wf (p:=tP a c) (l:=s.2.2.2.2) h;exact⟨k,h1,h2⟩
theorem Qqo(y:Qh):Yi.eqv (Qq.one 0 31 Zn::Qa Qq) y y=true:=Yi.eqv_rf (Qq.one 0 31 Zn::Qa Qq) y
theorem Yik{F:Nat}(hF:400<=F){s:Qh}(h:Zh s)(k:ByteArray){b:Q0}(hb:b.2.2.2.2.2.2.2.2.2.2.length<=10):Qim F ((b.1,k,b.2),s)=some (Qaa s b):=by
 have h1:=h.t;have hl:(s.2.2.2.2++[(b.2.2.1,b.2.2.2.2.1,b.2.2.2.2.2.2.2.2.2.2)]).length<=301:=by simp;omega
 have e:∀y:Tm,y::Qa Tm=[y]:=fun _=>rfl;unfold Qim Qv0 Qaa tw;simp(disch:=omega)only[Za,e,Yd4 (F:=F) (l:=s.2.2.2.2) (by omega),Zr2 (F:=F) (l:=b.2.2.2.2.2.2.2.2.2.2) (by omega),Zht hF h,tk,Ze,J,I,decide_true,C,Zb,o,Qle];by_cases p1:tI s b.2.2.1 b.2.2.2.2.1<0
 ·simp only[p1,decide_true,cond_true,if_true,o,Qd1,Qqo,Zb]
 ·obtain⟨j,j1,j2⟩:=Zks (s:=s) (a:=b.2.2.1) (c:=b.2.2.2.2.1) (by omega);have hlen:(s.2.2.2.2.set j (b.2.2.1,b.2.2.2.2.1,b.2.2.2.2.2.2.2.2.2.2)).length=s.2.2.2.2.length:=ZF;simp(disch:=omega)only[j1,p1,show¬((j:Nat):Int)<0 by omega,decide_false,cond_false,if_false,Ze,U,hlen,I,decide_true,C,ZA,ZB,Zb,o,ZE,Qhb,Qd1,Qqo]
theorem Ymq{F:Nat}(hF:400<=F){s:Qh}(h:Zh s){b:Q0}(hb:b.2.2.2.2.2.2.2.2.2.2.length<=10):Qhn F (s,b)=some (Qaa s b):=by
 have h1:=h.t;have hl:(s.2.2.2.2++[(b.2.2.1,b.2.2.2.2.1,b.2.2.2.2.2.2.2.2.2.2)]).length<=301:=by simp;omega
 have e:∀y:Tm,y::Qa Tm=[y]:=fun _=>rfl;have n:∀l:List Tm,Qa Tm++l=l:=fun _=>rfl;have n2:∀l:List ByteArray,Qa ByteArray++l=l:=fun _=>rfl;unfold Qhn Qaa tw;simp(disch:=omega)only[Za,e,n,n2,Zex hF h,tk,Ze,J,I,decide_true,C,Zb,o];by_cases p1:tI s b.2.2.1 b.2.2.2.2.1<0
 ·simp only[p1,decide_true,cond_true,if_true,o,Qd1,Qqo,Zb]
 ·obtain⟨j,j1,j2⟩:=Zks (s:=s) (a:=b.2.2.1) (c:=b.2.2.2.2.1) (by omega);have hlen:(s.2.2.2.2.set j (b.2.2.1,b.2.2.2.2.1,b.2.2.2.2.2.2.2.2.2.2)).length=s.2.2.2.2.length:=ZF;simp(disch:=omega)only[j1,p1,show¬((j:Nat):Int)<0 by omega,decide_false,cond_false,if_false,Ze,U,hlen,I,decide_true,C,ZA,ZB,Zb,o,ZE,Qhb,Qd1,Qqo]
abbrev atM:Qe:=.agg [.int .i64,.int .i64,.int .i64,.int .i64,.seq [.str,.str,.str,.int .i64,.int .i64,.int .i64,.int .i64,.str,.int .i64,.str,.int .i64]]
theorem okM{m:Mt}(h:Qe.ok atM m):m.2.2.2.2.length*128<=140737488355328:=by obtain⟨-,-,-,-,h,-⟩:=h;have h:m.2.2.2.2.length*128<=140737488351232:=h;omega
theorem MtS.bd{m:Mt}(h:MtS m):∀x∈m.2.2.2.2,x.1.size<=300∧x.2.2.1.size<=300:=fun x hx=>by have:=h.c x hx;unfold CsS at this;omega
theorem MtS.len{m:Mt}(h:MtS m):m.2.2.2.2.length<=300:=by have:=h.n;omega
theorem Zdg{b:Q0}(h:Y0 (b.1,Xa,b.2)=0):Jn (U4 b):=by have h:Z7 true false false true false false true false false b=0:=h;exact Xm h (Qgw b) (by simp)
structure Qxj (s:Qh):Prop where
 c:s.1.length<=256
 a:s.2.1.length<=256
 l:s.2.2.1.length<=256
 e:s.2.2.2.1.length<=256
 t:s.2.2.2.2.length<=256
def zS:Qh:=(Qa ByteArray,Qa Ath,Qa Lic,Qa Qr,Qa Tm)
theorem l19{F:Nat}(hF:400<=F)(a:Zw):∃b,c19 F a=some b∧(b=true->Zy (a.1,a.2.2)):=by
 obtain⟨d,k,at',c,g,ko,f,t,mk,mv,mr,ns⟩:=a;unfold c19;simp only[l79,o];by_cases h1:(60:Int)<k.size
 ·exact⟨false,by simp only[h1,decide_true,cond_true,o],fun h=>by cases h⟩
 ·by_cases h2:(60:Int)<at'.size
  ·exact⟨false,by simp only[h1,h2,decide_true,decide_false,cond_true,cond_false,o],fun h=>by cases h⟩
  ·by_cases h3:(60:Int)<c.size
   ·exact⟨false,by simp only[h1,h2,h3,decide_true,decide_false,cond_true,cond_false,o],fun h=>by cases h⟩
   ·by_cases h4:(60:Int)<g.size
    ·exact⟨false,by simp only[h1,h2,h3,h4,decide_true,decide_false,cond_true,cond_false,o],fun h=>by cases h⟩
    ·by_cases h5:(60:Int)<ko.size
     ·exact⟨false,by simp only[h1,h2,h3,h4,h5,decide_true,decide_false,cond_true,cond_false,o],fun h=>by cases h⟩
     ·by_cases h6:mk.size<=40∧mr.size<=40
      ·by_cases h7:(10:Int)<ns.length
       ·exact⟨false,by simp only[h1,h2,h3,h4,h5,h6,h7,and_self,decide_true,decide_false,ZL,cond_true,cond_false,o],fun h=>by cases h⟩
       ·simp only[h1,h2,h3,h4,h5,h6,h7,and_self,decide_true,decide_false,ZL,cond_true,cond_false,o];refine Qv2 ns (fun x=>x.size<=60) (fun b:Bool ⊕ Unit=>b=.inl false∨(b=.inr ()∧∀x∈ns,x.size<=60)) (by omega) ?_ ?_ ?_
        ·intro i x hi hx;simp(disch:=omega)only[Z1,Ze,U,getD_some hx,Zu];by_cases h8:(60:Int)<x.size
         ·exact⟨_,by simp only[h8,decide_true,cond_true],.inr ⟨_,rfl,.inl rfl⟩⟩
         ·exact⟨_,by simp only[h8,decide_false,cond_false],.inl ⟨rfl,by omega⟩⟩
        ·intro h;exact⟨_,by simp(disch:=omega)only[Zz],.inr ⟨rfl,h⟩⟩
        ·rintro b (rfl|⟨rfl,h⟩)
         ·exact⟨false,rfl,fun h=>by cases h⟩
         ·exact⟨true,rfl,fun _=>⟨by show at'.size<=60;omega,by show c.size<=60;omega,by show g.size<=60;omega,by show ko.size<=60;omega,by show ns.length<=10;omega,h⟩⟩
      ·exact⟨false,by simp only[h1,h2,h3,h4,h5,h6,decide_true,decide_false,Bool.not_false,cond_true,cond_false,o],fun h=>by cases h⟩
def lgA(m:Mt)(s:Qh)(a:Zw):Int:=if Qc a.2.1 Yz=true then Qaz s (a.1,a.2.2)else if Qc a.2.1 Yv=true then Qan s (a.1,a.2.2)else if Qc a.2.1 Y9=true then Qat s (a.1,a.2.2)else if Qc a.2.1 Yo=true then K1 s (a.1,a.2.2)else if Qc a.2.1 Xa=true then Qa6 m s (a.1,a.2.2)else if Qc a.2.1 Xf=true then Uq m s (a.1,a.2.2)else if Qc a.2.1 Xb=true then Uy m s (a.1,a.2.2)else if Qc a.2.1 Y8=true then Qbe m s (a.1,a.2.2)else 13
def nxA(s:Qh)(a:Zw):Qh:=if Qc a.2.1 Yz=true then Uz s (a.1,a.2.2)else if Qc a.2.1 Yv=true then U1 s (a.1,a.2.2)else if Qc a.2.1 Y9=true then Qbh s (a.1,a.2.2)else if Qc a.2.1 Yo=true then U5 s (a.1,a.2.2)else if Qc a.2.1 Xa=true then Qa2 s (a.1,a.2.2)else if Qc a.2.1 Xf=true then Qcm s (a.1,a.2.2)else if Qc a.2.1 Xb=true then Qas s (a.1,a.2.2)else if Qc a.2.1 Y8=true then Qaa s (a.1,a.2.2)else s
noncomputable def mvK(F:Nat)(s:Qh)(a:Zw):Option Qh:=bif Qc a.2.1 YJ then(R (Qi6 F ((a.1,YJ,a.2.2),s)) fun(v:Qh)=>some v)else(bif Qc a.2.1 YF then(R (Qgo F ((a.1,YF,a.2.2),s)) fun(v:Qh)=>some v)else(bif Qc a.2.1 YG then(R (Qi3 F ((a.1,YG,a.2.2),s)) fun(v:Qh)=>some v)else(bif Qc a.2.1 YD then(R (Qir F ((a.1,YD,a.2.2),s)) fun(v:Qh)=>some v)else(bif Qc a.2.1 YE then(R (Qh4 F ((a.1,YE,a.2.2),s)) fun(v:Qh)=>some v)else(bif Qc a.2.1 YB then(R (Qjm F ((a.1,YB,a.2.2),s)) fun(v:Qh)=>some v)else(bif Qc a.2.1 YH then(R (Qid F ((a.1,YH,a.2.2),s)) fun(v:Qh)=>some v)else(gd (Qc a.2.1 YI) (R (Qim F ((a.1,YI,a.2.2),s)) fun(v:Qh)=>some v))))))))
structure Up (F:Nat) (m:Mt) (s:Qh) (a:Zw) (lg:Int) (nx:Qh):Prop where
 el:lgA m s a=lg
 en:nxA s a=nx
 p135:Js F (m,s,a)=some lg
 p60:c60 F (m,s,a)=some lg
 p62:lg=0->c62 F (s,a)=some nx
 mv:lg=0->mvK F s a=some nx
theorem Yop{F:Nat}(hF:700<=F){m:Mt}(hm:m.2.2.2.2.length<=300){s:Qh}(hS:Zh s){b:Q0}(hv:Z9 m=0)(ha:Zy b):Up F m s (b.1,Yz,b.2) (Qaz s b) (Uz s b):=by
 have hF4:400<=F:=by omega
 refine⟨rfl,rfl,Yir hF hm hS hv ha,Yal hF hm hS hv ha,fun h=>?_,fun h=>?_⟩
 ·show Qia F (s,b)=_;exact Yg4 hS b
 ·show(R (Qi6 F ((b.1,Yz,b.2),s)) fun(v:Qh)=>some v)=_;rw[Ybx hS Yz b];rfl
theorem Zxy{F:Nat}(hF:700<=F){m:Mt}(hm:m.2.2.2.2.length<=300){s:Qh}(hS:Zh s){b:Q0}(hv:Z9 m=0)(ha:Zy b):Up F m s (b.1,Yv,b.2) (Qan s b) (U1 s b):=by
 have hF4:400<=F:=by omega
 refine⟨rfl,rfl,Zqr hF hm hS hv ha,Ypl hF hm hS hv ha,fun h=>?_,fun h=>?_⟩
 ·show Qg5 F (s,b)=_;exact Ydd hS b
 ·show(R (Qgo F ((b.1,Yv,b.2),s)) fun(v:Qh)=>some v)=_;rw[Zrm hS Yv b];rfl
theorem Ykm{F:Nat}(hF:700<=F){m:Mt}(hm:m.2.2.2.2.length<=300){s:Qh}(hS:Zh s){b:Q0}(hv:Z9 m=0)(ha:Zy b):Up F m s (b.1,Y9,b.2) (Qat s b) (Qbh s b):=by
 have hF4:400<=F:=by omega
 refine⟨rfl,rfl,Yac hF hm hS hv ha,Yrl hF hm hS hv ha,fun h=>?_,fun h=>?_⟩
 ·show Qjf F (s,b)=_;exact Zsc hS b
 ·show(R (Qi3 F ((b.1,Y9,b.2),s)) fun(v:Qh)=>some v)=_;rw[Zsk hS Y9 b];rfl
theorem Yej{F:Nat}(hF:700<=F){m:Mt}(hm:m.2.2.2.2.length<=300){s:Qh}(hS:Zh s){b:Q0}(hv:Z9 m=0)(ha:Zy b):Up F m s (b.1,Yo,b.2) (K1 s b) (U5 s b):=by
 have hF4:400<=F:=by omega
 have hx:K1 s b=0->0<=aI s b.2.1:=fun h=>by unfold K1 at h;split at h<;>omega
 refine⟨rfl,rfl,Ybp hF hm hS hv ha,Yjp hF hm hS hv ha,fun h=>?_,fun h=>?_⟩
 ·show Qgm F (s,b)=_;exact Yeg hF4 hS (hx h)
 ·show(R (Qir F ((b.1,Yo,b.2),s)) fun(v:Qh)=>some v)=_;rw[Zxn hF4 hS Yo (hx h)];rfl
theorem Zsp{F:Nat}(hF:700<=F){m:Mt}(hm:m.2.2.2.2.length<=300){s:Qh}(hS:Zh s){b:Q0}(hv:Z9 m=0)(ha:Zy b)(hk:Jn (U4 b)):Up F m s (b.1,Xa,b.2) (Qa6 m s b) (Qa2 s b):=by
 have hF4:400<=F:=by omega
 refine⟨rfl,rfl,Zv3 hF hm hS hv ha hk,Zzg hF hm hS hv ha hk,fun h=>?_,fun h=>?_⟩
 ·show Qhk F (s,b)=_;exact Zwy hS b
 ·show(R (Qh4 F ((b.1,Xa,b.2),s)) fun(v:Qh)=>some v)=_;rw[Yig hS Xa b];rfl
theorem Zz6{F:Nat}(hF:700<=F){m:Mt}(hm:m.2.2.2.2.length<=300){s:Qh}(hS:Zh s){b:Q0}(hv:Z9 m=0)(ha:Zy b):Up F m s (b.1,Xf,b.2) (Uq m s b) (Qcm s b):=by
 have hF4:400<=F:=by omega
 have hx:Uq m s b=0->0<=eI s b.2.1 b.2.2.2.2.1:=fun h=>by unfold Uq at h;split at h<;>omega
 refine⟨rfl,rfl,Yj4 hF hm hS hv ha,Zpc hF hm hS hv ha,fun h=>?_,fun h=>?_⟩
 ·show Qg8 F (s,b)=_;exact Yad hF4 hS (hx h)
 ·show(R (Qjm F ((b.1,Xf,b.2),s)) fun(v:Qh)=>some v)=_;rw[Ymp hF4 hS Xf (hx h)];rfl
theorem Yjl{F:Nat}(hF:700<=F){m:Mt}(hm:m.2.2.2.2.length<=300){s:Qh}(hS:Zh s){b:Q0}(hv:Z9 m=0)(ha:Zy b):Up F m s (b.1,Xb,b.2) (Uy m s b) (Qas s b):=by
 have hF4:400<=F:=by omega
 have hx:Uy m s b=0->0<=eI s b.2.1 b.2.2.2.2.1:=fun h=>by unfold Uy at h;split at h<;>omega
 refine⟨rfl,rfl,Yhm hF hm hS hv ha,Znp hF hm hS hv ha,fun h=>?_,fun h=>?_⟩
 ·show Qhd F (s,b)=_;exact Yoo hF4 hS (hx h)
 ·show(R (Qid F ((b.1,Xb,b.2),s)) fun(v:Qh)=>some v)=_;rw[Yjs hF4 hS Xb (hx h)];rfl
theorem Yo0{F:Nat}(hF:700<=F){m:Mt}(hm:m.2.2.2.2.length<=300){s:Qh}(hS:Zh s){b:Q0}(hv:Z9 m=0)(ha:Zy b):Up F m s (b.1,Y8,b.2) (Qbe m s b) (Qaa s b):=by
 have hF4:400<=F:=by omega
 refine⟨rfl,rfl,Yo9 hF hm hS hv ha,Zpy hF hm hS hv ha,fun h=>?_,fun h=>?_⟩
 ·show Qhn F (s,b)=_;exact Ymq hF4 hS ha.n
 ·show(R (Qim F ((b.1,Y8,b.2),s)) fun(v:Qh)=>some v)=_;rw[Yik hF4 hS Y8 ha.n];rfl
theorem Zjh{a:Zw}(h:Y0 a=0):a.2.1=Yz∨a.2.1=Yv∨a.2.1=Y9∨a.2.1=Yo∨a.2.1=Xa∨a.2.1=Xf∨a.2.1=Xb∨a.2.1=Y8:=by
 by_cases h0:Qc a.2.1 Yz=true
 ·exact .inl (Y1.1 h0)
 have g0:=ZC.2 h0;by_cases h1:Qc a.2.1 Yv=true
 ·exact .inr (.inl (Y1.1 h1))
 have g1:=ZC.2 h1;by_cases h2:Qc a.2.1 Y9=true
 ·exact .inr (.inr (.inl (Y1.1 h2)))
 have g2:=ZC.2 h2;by_cases h3:Qc a.2.1 Yo=true
 ·exact .inr (.inr (.inr (.inl (Y1.1 h3))))
 have g3:=ZC.2 h3;by_cases h4:Qc a.2.1 Xa=true
 ·exact .inr (.inr (.inr (.inr (.inl (Y1.1 h4)))))
 have g4:=ZC.2 h4;by_cases h5:Qc a.2.1 Xf=true
 ·exact .inr (.inr (.inr (.inr (.inr (.inl (Y1.1 h5))))))
 have g5:=ZC.2 h5;by_cases h6:Qc a.2.1 Xb=true
 ·exact .inr (.inr (.inr (.inr (.inr (.inr (.inl (Y1.1 h6)))))))
 have g6:=ZC.2 h6;by_cases h7:Qc a.2.1 Y8=true
 ·exact .inr (.inr (.inr (.inr (.inr (.inr (.inr (Y1.1 h7)))))))
 have g7:=ZC.2 h7;exfalso;have h13:Y0 a=13:=by unfold Y0;simp only[g0,g1,g2,g3,g4,g5,g6,g7,Bool.false_eq_true,if_false]
 rw[h13]at h;cases h
theorem Yoc{F:Nat}(hF:700<=F){m:Mt}(hm:m.2.2.2.2.length<=300){s:Qh}(hS:Zh s){a:Zw}(hv:Z9 m=0)(ha:Zy (a.1,a.2.2))(h0:Y0 a=0):Up F m s a (lgA m s a) (nxA s a):=by
 obtain⟨d,k,r⟩:=a;have key:∀lg nx,Up F m s (d,k,r) lg nx->Up F m s (d,k,r) (lgA m s (d,k,r)) (nxA s (d,k,r)):=fun lg nx h=>by rw[h.el,h.en];exact h
 rcases Zjh h0 with h|h|h|h|h|h|h|h
 ·obtain rfl:k=Yz:=h;exact key _ _ (Yop hF hm hS (b:=(d,r)) hv ha)
 ·obtain rfl:k=Yv:=h;exact key _ _ (Zxy hF hm hS (b:=(d,r)) hv ha)
 ·obtain rfl:k=Y9:=h;exact key _ _ (Ykm hF hm hS (b:=(d,r)) hv ha)
 ·obtain rfl:k=Yo:=h;exact key _ _ (Yej hF hm hS (b:=(d,r)) hv ha)
 ·obtain rfl:k=Xa:=h;exact key _ _ (Zsp hF hm hS (b:=(d,r)) hv ha (Zdg h0))
 ·obtain rfl:k=Xf:=h;exact key _ _ (Zz6 hF hm hS (b:=(d,r)) hv ha)
 ·obtain rfl:k=Xb:=h;exact key _ _ (Yjl hF hm hS (b:=(d,r)) hv ha)
 ·obtain rfl:k=Y8:=h;exact key _ _ (Yo0 hF hm hS (b:=(d,r)) hv ha)
end Go.Proofs.Tryz
