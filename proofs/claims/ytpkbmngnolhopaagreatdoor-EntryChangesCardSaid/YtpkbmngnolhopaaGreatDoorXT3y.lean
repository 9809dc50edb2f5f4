/- Plain law: Next by kinds. Plain law: room for a meeting and a state. And further parts. -/
import Derived.Test.YtpkbmngnolhopaaGreatDoorXTeD62
import Derived.Test.YtpkbmngnolhopaaGreatDoorXT3f
import Derived.Test.YtpkbmngnolhopaaGreatDoorXT3n
set_option maxRecDepth 100000
set_option linter.unusedVariables false
set_option linter.unusedSimpArgs false
open Option renaming bind_some->o,bind->R
open Bool renaming and_self->C,true_and->ZA,and_true->ZB,eq_false_iff->ZC,not_true->ZL
open Nat renaming le_refl->I,zero_add->J
open Int renaming toNat_natCast->U
open List renaming eq_nil_of_length_eq_zero->ZD,drop_zero->ZE,length_set->ZF,take->ZG,take_length->ZH,take_of_length_le->ZI,drop->ZJ,replicate->ZK
namespace Go.Proofs.Tryz
open Go Go.Sx
theorem Ybz{F:Nat}{l:List ByteArray}(h:l.length<=1000):Qmo F l=some l:=by
 have h1:l.length*16<=140737488355328:=by omega
 have h2:l.length<=9223372036854775807:=by omega
 unfold Qmo;simp only[Qk2,h1,h2,decide_true,Q3,o];by_cases h0:l.length=0
 ·obtain rfl:=ZD h0;rfl
 ·simp only[h0,decide_false,cond_false]
theorem Zia{F:Nat}{l:List Ath}(h:l.length<=1000):Qgf F l=some l:=by
 have h1:l.length*56<=140737488355328:=by omega
 have h2:l.length<=9223372036854775807:=by omega
 unfold Qgf;simp only[Qk2,h1,h2,decide_true,Q3,o];by_cases h0:l.length=0
 ·obtain rfl:=ZD h0;rfl
 ·simp only[h0,decide_false,cond_false]
theorem Zo4{F:Nat}{l:List Lic}(h:l.length<=1000):Ql9 F l=some l:=by
 have h1:l.length*32<=140737488355328:=by omega
 have h2:l.length<=9223372036854775807:=by omega
 unfold Ql9;simp only[Qk2,h1,h2,decide_true,Q3,o];by_cases h0:l.length=0
 ·obtain rfl:=ZD h0;rfl
 ·simp only[h0,decide_false,cond_false]
theorem Qvv{F:Nat}{l:List Qq}(h:l.length<=1000):Qep F l=some l:=by
 have h1:l.length*88<=140737488355328:=by omega
 have h2:l.length<=9223372036854775807:=by omega
 unfold Qep;simp only[Qk2,h1,h2,decide_true,Q3,o];by_cases h0:l.length=0
 ·obtain rfl:=ZD h0;rfl
 ·simp only[h0,decide_false,cond_false]
def U8(s:Qi)(b:Q0):Qi:=(s.1++[b.2.2.1],s.2)
def U2(s:Qi)(b:Q0):Qi:=(s.1,s.2.1++[(b.2.1,b.2.2.1,b.2.2.2.2.2.1,b.2.2.2.1)],s.2.2)
def Qax(s:Qi)(b:Q0):Qi:=(s.1,s.2.1,s.2.2.1++[(b.2.1,b.2.2.2.2.2.1,b.2.2.2.2.2.2.1)],s.2.2.2)
def Ui(s:Qi)(b:Q0):Qi:=(s.1,s.2.1.set (aI s b.2.1).toNat ((Yv s b.2.1).1,b.2.2.1,(Yv s b.2.1).2.2.1,(Yv s b.2.1).2.2.2),s.2.2)
def Qa9(s:Qi)(b:Q0):Qi:=(s.1,s.2.1,s.2.2.1,s.2.2.2.1++[(b.2.1,b.2.2.2.2.1,b.2.2.2.2.2.2.2.1,b.2.2.2.2.2.2.2.2.1,b.2.2.2.2.2.2.2.2.2.1,b.1,false)],s.2.2.2.2)
def Qb6(s:Qi)(b:Q0):Qi:=(s.1,s.2.1,s.2.2.1,s.2.2.2.1.take (eI s b.2.1 b.2.2.2.2.1).toNat++s.2.2.2.1.drop ((eI s b.2.1 b.2.2.2.2.1).toNat+1),s.2.2.2.2)
def Qko(e:Qq):Qq:=(e.1,e.2.1,e.2.2.1,e.2.2.2.1,e.2.2.2.2.1,e.2.2.2.2.2.1,true)
def Qag(s:Qi)(b:Q0):Qi:=(s.1,s.2.1,s.2.2.1,s.2.2.2.1.set (eI s b.2.1 b.2.2.2.2.1).toNat (Qko (Vg s b.2.1 b.2.2.2.2.1)),s.2.2.2.2)
def U3(s:Qi)(b:Q0):Qi:=(s.1,s.2.1,s.2.2.1,s.2.2.2.1,if tI s b.2.2.1 b.2.2.2.2.1<0 then s.2.2.2.2++[(b.2.2.1,b.2.2.2.2.1,b.2.2.2.2.2.2.2.2.2.2)]else s.2.2.2.2.set (tI s b.2.2.1 b.2.2.2.2.1).toNat (b.2.2.1,b.2.2.2.2.1,b.2.2.2.2.2.2.2.2.2.2))
theorem tk{α:Type}(l:List α):ZG l.length (ZJ 0 l)=l:=by rw[ZE,ZH]
theorem Qn8(y:List Ath):Qt.eqv (Qe.val (Ty.seq kt3)::Qa Qe) y y=true:=Qt.eqv_rf (Qe.val (Ty.seq kt3)::Qa Qe) y
theorem Qm6(y:List Lic):Qt.eqv (Qe.val (Ty.seq kt2)::Qa Qe) y y=true:=Qt.eqv_rf (Qe.val (Ty.seq kt2)::Qa Qe) y
theorem Qq3(y:List Qq):Qt.eqv (Qe.val (Ty.seq Zl)::Qa Qe) y y=true:=Qt.eqv_rf (Qe.val (Ty.seq Zl)::Qa Qe) y
theorem Qk1(y:List Tm):Qt.eqv (Qe.val (Ty.seq kt9)::Qa Qe) y y=true:=Qt.eqv_rf (Qe.val (Ty.seq kt9)::Qa Qe) y
theorem Ycr{F:Nat}{s:Qi}(h:Zr s)(k:ByteArray)(b:Q0):Qio F ((b.1,k,b.2),s)=some (U8 s b):=by
 have h1:=h.c;have hl:(s.1++[b.2.2.1]).length<=301:=by simp;omega
 have e:∀y:ByteArray,y::Qa ByteArray=[y]:=fun _=>rfl;have n:∀l:List ByteArray,Qa ByteArray++l=l:=fun _=>rfl;unfold Qio Qs5 U8;simp(disch:=omega)only[Zj,Ybz (F:=F) (l:=s.1) (by omega),e,Zf,tk,J,I,decide_true,C,Q3,o,Qn8,Qm6,Qq3,Qk1]
theorem Yjn{F:Nat}{s:Qi}(h:Zr s)(b:Q0):Qh0 F (s,b)=some (U8 s b):=by
 have h1:=h.c;have hl:(s.1++[b.2.2.1]).length<=301:=by simp;omega
 have e:∀y:ByteArray,y::Qa ByteArray=[y]:=fun _=>rfl;have n:∀l:List ByteArray,Qa ByteArray++l=l:=fun _=>rfl;unfold Qh0 U8 tw;simp(disch:=omega)only[Zj,n,e,Zf,tk,J,I,decide_true,C,ZA,ZB,Q3,o,Qdl]
theorem Zsl{F:Nat}{s:Qi}(h:Zr s)(k:ByteArray)(b:Q0):Qgq F ((b.1,k,b.2),s)=some (U2 s b):=by
 have h1:=h.a;have hl:(s.2.1++[(b.2.1,b.2.2.1,b.2.2.2.2.2.1,b.2.2.2.1)]).length<=301:=by simp;omega
 have e:∀y:Ath,y::Qa Ath=[y]:=fun _=>rfl;have n:∀l:List Ath,Qa Ath++l=l:=fun _=>rfl;unfold Qgq Qy4 U2 tw;simp(disch:=omega)only[Zj,Zia (F:=F) (l:=s.2.1) (by omega),e,Zf,tk,J,I,decide_true,C,Q3,o,Qn8,Qm6,Qq3,Qk1]
theorem Yor{F:Nat}{s:Qi}(h:Zr s)(b:Q0):Qhq F (s,b)=some (U2 s b):=by
 have h1:=h.a;have hl:(s.2.1++[(b.2.1,b.2.2.1,b.2.2.2.2.2.1,b.2.2.2.1)]).length<=301:=by simp;omega
 have e:∀y:Ath,y::Qa Ath=[y]:=fun _=>rfl;have n:∀l:List Ath,Qa Ath++l=l:=fun _=>rfl;unfold Qhq U2 tw;simp(disch:=omega)only[Zj,n,e,Zf,tk,J,I,decide_true,C,ZA,ZB,Q3,o,Qdl]
theorem Yqm{F:Nat}{s:Qi}(h:Zr s)(k:ByteArray)(b:Q0):Qh1 F ((b.1,k,b.2),s)=some (Qax s b):=by
 have h1:=h.l;have hl:(s.2.2.1++[(b.2.1,b.2.2.2.2.2.1,b.2.2.2.2.2.2.1)]).length<=301:=by simp;omega
 have e:∀y:Lic,y::Qa Lic=[y]:=fun _=>rfl;have n:∀l:List Lic,Qa Lic++l=l:=fun _=>rfl;unfold Qh1 Qtq Qax tw;simp(disch:=omega)only[Zj,Zo4 (F:=F) (l:=s.2.2.1) (by omega),e,Zf,tk,J,I,decide_true,C,Q3,o,Qn8,Qm6,Qq3,Qk1]
theorem Ykw{F:Nat}{s:Qi}(h:Zr s)(b:Q0):Qif F (s,b)=some (Qax s b):=by
 have h1:=h.l;have hl:(s.2.2.1++[(b.2.1,b.2.2.2.2.2.1,b.2.2.2.2.2.2.1)]).length<=301:=by simp;omega
 have e:∀y:Lic,y::Qa Lic=[y]:=fun _=>rfl;have n:∀l:List Lic,Qa Lic++l=l:=fun _=>rfl;unfold Qif Qax tw;simp(disch:=omega)only[Zj,n,e,Zf,tk,J,I,decide_true,C,ZA,ZB,Q3,o,Qdl]
theorem Yfk{F:Nat}{s:Qi}(h:Zr s)(k:ByteArray)(b:Q0):Qgl F ((b.1,k,b.2),s)=some (Qa9 s b):=by
 have h1:=h.e;have hl:(s.2.2.2.1++[(b.2.1,b.2.2.2.2.1,b.2.2.2.2.2.2.2.1,b.2.2.2.2.2.2.2.2.1,b.2.2.2.2.2.2.2.2.2.1,b.1,false)]).length<=301:=by simp;omega
 have e:∀y:Qq,y::Qa Qq=[y]:=fun _=>rfl;have n:∀l:List Qq,Qa Qq++l=l:=fun _=>rfl;unfold Qgl Qws Qa9 tw;simp(disch:=omega)only[Zj,Qvv (F:=F) (l:=s.2.2.2.1) (by omega),e,Zf,tk,J,I,decide_true,C,Q3,o,Qn8,Qm6,Qq3,Qk1]
theorem Zuv{F:Nat}{s:Qi}(h:Zr s)(b:Q0):Qg4 F (s,b)=some (Qa9 s b):=by
 have h1:=h.e;have hl:(s.2.2.2.1++[(b.2.1,b.2.2.2.2.1,b.2.2.2.2.2.2.2.1,b.2.2.2.2.2.2.2.2.1,b.2.2.2.2.2.2.2.2.2.1,b.1,false)]).length<=301:=by simp;omega
 have e:∀y:Qq,y::Qa Qq=[y]:=fun _=>rfl;have n:∀l:List Qq,Qa Qq++l=l:=fun _=>rfl;unfold Qg4 Qa9 tw;simp(disch:=omega)only[Zj,n,e,Zf,tk,J,I,decide_true,C,ZA,ZB,Q3,o,Qdl]
theorem Qgk{α:Type}(l:List α)(j:Nat)(x:α):ZG l.length (l.set j x)=l.set j x:=by rw[ZI (by rw[ZF];exact I _)]
theorem Zvo{F:Nat}(hF:400<=F){s:Qi}(h:Zr s)(k:ByteArray){b:Q0}(hx:0<=aI s b.2.1):Qgm F ((b.1,k,b.2),s)=some (Ui s b):=by
 have h1:=h.a;obtain⟨j,j1,j2⟩:=Qc8 hx;have hd:Zw=dA:=rfl;have hA:s.2.1.getD j dA=Yv s b.2.1:=by unfold Yv;rw[j1];rfl
 unfold Qgm Ui;simp only[Zj,Zia (F:=F) (l:=s.2.1) (by omega),tk,Qc1 hF h,hd,j1,J,I,decide_true,C,Q3,o];have hlen:(s.2.1.set j ((Yv s b.2.1).1,b.2.2.1,(Yv s b.2.1).2.2.1,(Yv s b.2.1).2.2.2)).length=s.2.1.length:=ZF;simp(disch:=omega)only[Zf,U,hA,hlen,I,decide_true,C,ZA,ZB,Q3,ZE,Qgk]
theorem Yhd{F:Nat}(hF:400<=F){s:Qi}(h:Zr s){b:Q0}(hx:0<=aI s b.2.1):Qgy F (s,b)=some (Ui s b):=by
 have h1:=h.a;obtain⟨j,j1,j2⟩:=Qc8 hx;have hd:Zw=dA:=rfl;have hA:s.2.1.getD j dA=Yv s b.2.1:=by unfold Yv;rw[j1];rfl
 have n:∀l:List Ath,Qa Ath++l=l:=fun _=>rfl;unfold Qgy Ui;have hlen:(s.2.1.set j ((Yv s b.2.1).1,b.2.2.1,(Yv s b.2.1).2.2.1,(Yv s b.2.1).2.2.2)).length=s.2.1.length:=ZF;simp(disch:=omega)only[Zj,n,tk,l40 hF h,hd,j1,Zf,U,hA,hlen,J,I,decide_true,C,ZA,ZB,Q3,o,ZE,ZH,Qgk]
theorem Qpf{s:Qi}{a c:ByteArray}(h:0<=eI s a c):∃k:Nat,eI s a c=k∧k<s.2.2.2.1.length:=by obtain⟨k,y,h1,h2,h3,h4⟩:=Wl (p:=eP a c) (l:=s.2.2.2.1) h;exact⟨k,h1,h2⟩
theorem Zte{F:Nat}(hF:400<=F){s:Qi}(h:Zr s)(k:ByteArray){b:Q0}(hx:0<=eI s b.2.1 b.2.2.2.2.1):Qg7 F ((b.1,k,b.2),s)=some (Qag s b):=by
 have h1:=h.e;obtain⟨j,j1,j2⟩:=Qpf hx;have hA:s.2.2.2.1.getD j dE=Vg s b.2.1 b.2.2.2.2.1:=by unfold Vg;rw[j1];rfl
 unfold Qg7 Qag Qko;simp only[Zj,Qvv (F:=F) (l:=s.2.2.2.1) (by omega),tk,Qju hF h,tE,j1,J,I,decide_true,C,Q3,o];generalize hy:(Vg s b.2.1 b.2.2.2.2.1)=y at hA;have hlen:(s.2.2.2.1.set j (y.1,y.2.1,y.2.2.1,y.2.2.2.1,y.2.2.2.2.1,y.2.2.2.2.2.1,true)).length=s.2.2.2.1.length:=ZF;simp(disch:=omega)only[Zf,U,hA,hlen,I,decide_true,C,ZA,ZB,Q3,ZE,Qgk]
theorem Zv9{F:Nat}(hF:400<=F){s:Qi}(h:Zr s){b:Q0}(hx:0<=eI s b.2.1 b.2.2.2.2.1):Qgo F (s,b)=some (Qag s b):=by
 have h1:=h.e;obtain⟨j,j1,j2⟩:=Qpf hx;have hA:s.2.2.2.1.getD j dE=Vg s b.2.1 b.2.2.2.2.1:=by unfold Vg;rw[j1];rfl
 have n:∀l:List Qq,Qa Qq++l=l:=fun _=>rfl;unfold Qgo Qag Qko;generalize hy:(Vg s b.2.1 b.2.2.2.2.1)=y at hA;have hlen:(s.2.2.2.1.set j (y.1,y.2.1,y.2.2.1,y.2.2.2.1,y.2.2.2.2.1,y.2.2.2.2.2.1,true)).length=s.2.2.2.1.length:=ZF;simp(disch:=omega)only[Zj,n,tk,l53 hF h,tE,j1,Zf,U,hA,hlen,J,I,decide_true,C,ZA,ZB,Q3,o,ZE,ZH,Qgk]
theorem Ziv{α:Type}{A X Y:List α}{n:Nat}(h:n<=A.length):ZG n (ZJ 0 (ZG n A++X++Y))=ZG n A:=by rw[ZE,List.append_assoc,List.take_append_of_le_length (by rw[List.length_take];omega),List.take_take,Nat.min_self]
theorem Yku{α:Type}{L:List α}{j:Nat}(h:j<L.length):ZG (j+(L.length-(j+1))) (Wa L j (j+1) (L.length-(j+1)))=L.take j++L.drop (j+1):=by have e:(L.drop (j+1)).take (L.length-(j+1))=L.drop (j+1):=ZI (by rw[List.length_drop];omega);unfold Wa;rw[e];exact List.take_left' (by simp;omega)
theorem Yh9{F:Nat}(hF:400<=F){s:Qi}(h:Zr s)(k:ByteArray){b:Q0}(hx:0<=eI s b.2.1 b.2.2.2.2.1):Qib F ((b.1,k,b.2),s)=some (Qb6 s b):=by
 have h1:=h.e;obtain⟨j,j1,j2⟩:=Qpf hx;have hw:w64 ((j:Int)+1)=((j+1:Nat):Int):=by rw[Zy (by omega) (by omega)];rfl
 have hne:¬((j:Nat):Int)=((j+1:Nat):Int):=by omega
 unfold Qib Qb6;simp only[Zj,Qvv (F:=F) (l:=s.2.2.2.1) (by omega),tk,Qju hF h,tE,j1,hw,hne,J,Nat.sub_zero,U,I,decide_true,decide_false,cond_false,C,Q3,o];generalize s.2.2.2.1=L at h1 j2;by_cases p1:L.length-(j+1)=0
 ·have hA:∀z:Qq,j<=(ZG j L++ZK (L.length-j) z++ZJ (j+(L.length-j)) L).length:=by intro z;simp;omega
  have hB:ZJ (j+1) L=[]:=List.drop_of_length_le (by omega);simp(disch:=omega)only[Zf,p1,hA,Ziv (show j<=L.length by omega),hB,List.append_nil,I,decide_true,cond_true,C,ZA,ZB,Q3,o]
 ·have hm1:(Wa L j (j+1) (L.length-(j+1))).length=L.length:=Qrr (by omega) (by omega);have hA:∀z:Qq,j+(L.length-(j+1))<=(ZG (j+(L.length-(j+1))) (Wa L j (j+1) (L.length-(j+1)))++ZK (L.length-(j+(L.length-(j+1)))) z++ZJ (j+(L.length-(j+1))+(L.length-(j+(L.length-(j+1))))) (Wa L j (j+1) (L.length-(j+1)))).length:=by intro z;simp[hm1];omega
  simp(disch:=omega)only[Zf,p1,hA,hm1,Ziv (A:=Wa L j (j+1) (L.length-(j+1))) (show j+(L.length-(j+1))<=_ by rw[hm1];omega),I,decide_true,decide_false,cond_false,C,ZA,ZB,Q3,o];rw[Yku j2]
theorem Yr8{F:Nat}(hF:400<=F){s:Qi}(h:Zr s){b:Q0}(hx:0<=eI s b.2.1 b.2.2.2.2.1):Qiz F (s,b)=some (Qb6 s b):=by
 have h1:=h.e;obtain⟨j,j1,j2⟩:=Qpf hx;have hw:w64 ((j:Int)+1)=((j+1:Nat):Int):=by rw[Zy (by omega) (by omega)];rfl
 have n:∀l:List Qq,Qa Qq++l=l:=fun _=>rfl;unfold Qiz Qb6;simp only[Zj,n,tk,l53 hF h,tE,j1,hw,J,Nat.sub_zero,U,I,decide_true,decide_false,cond_false,C,Q3,o];have hl1:(s.2.2.2.1.take j).length<=300:=by simp;omega
 have hl2:(s.2.2.2.1.take j++s.2.2.2.1.drop (j+1)).length<=300:=by simp;omega
 simp(disch:=omega)only[ZE,ZH,Zf]
theorem Zio{s:Qi}{a c:ByteArray}(h:0<=tI s a c):∃k:Nat,tI s a c=k∧k<s.2.2.2.2.length:=by obtain⟨k,y,h1,h2,h3,h4⟩:=Wl (p:=tP a c) (l:=s.2.2.2.2) h;exact⟨k,h1,h2⟩
theorem Qpw(y:Qi):Yg.eqv (Qr.one 0 31 Zm::Qa Qr) y y=true:=Yg.eqv_rf (Qr.one 0 31 Zm::Qa Qr) y
theorem Yli{F:Nat}(hF:400<=F){s:Qi}(h:Zr s)(k:ByteArray){b:Q0}(hb:b.2.2.2.2.2.2.2.2.2.2.length<=10):Qht F ((b.1,k,b.2),s)=some (U3 s b):=by
 have h1:=h.t;have hl:(s.2.2.2.2++[(b.2.2.1,b.2.2.2.2.1,b.2.2.2.2.2.2.2.2.2.2)]).length<=301:=by simp;omega
 have e:∀y:Tm,y::Qa Tm=[y]:=fun _=>rfl;unfold Qht Qyb U3 tw;simp(disch:=omega)only[Zj,e,Ynz (F:=F) (l:=s.2.2.2.2) (by omega),Yqw (F:=F) (l:=b.2.2.2.2.2.2.2.2.2.2) (by omega),Yne hF h,tk,Zf,J,I,decide_true,C,Q3,o,Qk1];by_cases p1:tI s b.2.2.1 b.2.2.2.2.1<0
 ·simp only[p1,decide_true,cond_true,if_true,o,Qdl,Qpw,Q3]
 ·obtain⟨j,j1,j2⟩:=Zio (s:=s) (a:=b.2.2.1) (c:=b.2.2.2.2.1) (by omega);have hlen:(s.2.2.2.2.set j (b.2.2.1,b.2.2.2.2.1,b.2.2.2.2.2.2.2.2.2.2)).length=s.2.2.2.2.length:=ZF;simp(disch:=omega)only[j1,p1,show¬((j:Nat):Int)<0 by omega,decide_false,cond_false,if_false,Zf,U,hlen,I,decide_true,C,ZA,ZB,Q3,o,ZE,Qgk,Qdl,Qpw]
theorem Zzx{F:Nat}(hF:400<=F){s:Qi}(h:Zr s){b:Q0}(hb:b.2.2.2.2.2.2.2.2.2.2.length<=10):Qh7 F (s,b)=some (U3 s b):=by
 have h1:=h.t;have hl:(s.2.2.2.2++[(b.2.2.1,b.2.2.2.2.1,b.2.2.2.2.2.2.2.2.2.2)]).length<=301:=by simp;omega
 have e:∀y:Tm,y::Qa Tm=[y]:=fun _=>rfl;have n:∀l:List Tm,Qa Tm++l=l:=fun _=>rfl;have n2:∀l:List ByteArray,Qa ByteArray++l=l:=fun _=>rfl;unfold Qh7 U3 tw;simp(disch:=omega)only[Zj,e,n,n2,Zrz hF h,tk,Zf,J,I,decide_true,C,Q3,o];by_cases p1:tI s b.2.2.1 b.2.2.2.2.1<0
 ·simp only[p1,decide_true,cond_true,if_true,o,Qdl,Qpw,Q3]
 ·obtain⟨j,j1,j2⟩:=Zio (s:=s) (a:=b.2.2.1) (c:=b.2.2.2.2.1) (by omega);have hlen:(s.2.2.2.2.set j (b.2.2.1,b.2.2.2.2.1,b.2.2.2.2.2.2.2.2.2.2)).length=s.2.2.2.2.length:=ZF;simp(disch:=omega)only[j1,p1,show¬((j:Nat):Int)<0 by omega,decide_false,cond_false,if_false,Zf,U,hlen,I,decide_true,C,ZA,ZB,Q3,o,ZE,Qgk,Qdl,Qpw]
abbrev atM:Qe:=.agg [.int .i64,.int .i64,.int .i64,.int .i64,.seq [.str,.str,.str,.int .i64,.int .i64,.int .i64,.int .i64,.str,.int .i64,.str,.int .i64]]
theorem okM{m:Mt}(h:Qe.ok atM m):m.2.2.2.2.length*128<=140737488355328:=by obtain⟨-,-,-,-,h,-⟩:=h;have h:m.2.2.2.2.length*128<=140737488351232:=h;omega
theorem MtS.bd{m:Mt}(h:MtS m):∀x∈m.2.2.2.2,x.1.size<=300∧x.2.2.1.size<=300:=fun x hx=>by have:=h.c x hx;unfold CsS at this;omega
theorem MtS.len{m:Mt}(h:MtS m):m.2.2.2.2.length<=300:=by have:=h.n;omega
theorem Zjb{b:Q0}(h:Yz (b.1,Xd,b.2)=0):Jp (U5 b):=by have h:Z5 true false false true false false true false false b=0:=h;exact Y1 h (Qh9 b) (by simp)
def zS:Qi:=(Qa ByteArray,Qa Ath,Qa Lic,Qa Qq,Qa Tm)
theorem l19{F:Nat}(hF:400<=F)(a:Ya):∃b,c19 F a=some b∧(b=true->Zz (a.1,a.2.2)):=by
 obtain⟨d,k,at',c,g,ko,f,t,mk,mv,mr,ns⟩:=a;unfold c19;simp only[l79,o];by_cases h1:(60:Int)<k.size
 ·exact⟨false,by simp only[h1,decide_true,cond_true,o],fun h=>by cases h⟩
 ·by_cases h2:(60:Int)<at'.size
  ·exact⟨false,by simp only[h1,h2,decide_true,decide_false,cond_true,cond_false,o],fun h=>by cases h⟩
  ·by_cases h3:(60:Int)<c.size
   ·exact⟨false,by simp only[h1,h2,h3,decide_true,decide_false,cond_true,cond_false,o],fun h=>by cases h⟩
   ·by_cases h4:(60:Int)<g.size
    ·exact⟨false,by simp only[h1,h2,h3,h4,decide_true,decide_false,cond_true,cond_false,o],fun h=>by cases h⟩
    ·by_cases h5:(60:Int)<ko.size
     ·exact⟨false,by simp only[h1,h2,h3,h4,h5,decide_true,decide_false,cond_true,cond_false,o],fun h=>by cases h⟩
     ·by_cases h6:mk.size<=40∧mr.size<=40
      ·by_cases h7:(10:Int)<ns.length
       ·exact⟨false,by simp only[h1,h2,h3,h4,h5,h6,h7,and_self,decide_true,decide_false,ZL,cond_true,cond_false,o],fun h=>by cases h⟩
       ·simp only[h1,h2,h3,h4,h5,h6,h7,and_self,decide_true,decide_false,ZL,cond_true,cond_false,o];refine Qtv ns (fun x=>x.size<=60) (fun b:Bool ⊕ Unit=>b=.inl false∨(b=.inr ()∧∀x∈ns,x.size<=60)) (by omega) ?_ ?_ ?_
        ·intro i x hi hx;simp(disch:=omega)only[Z3,Zf,U,getD_some hx,Zy];by_cases h8:(60:Int)<x.size
         ·exact⟨_,by simp only[h8,decide_true,cond_true],.inr ⟨_,rfl,.inl rfl⟩⟩
         ·exact⟨_,by simp only[h8,decide_false,cond_false],.inl ⟨rfl,by omega⟩⟩
        ·intro h;exact⟨_,by simp(disch:=omega)only[Z0],.inr ⟨rfl,h⟩⟩
        ·rintro b (rfl|⟨rfl,h⟩)
         ·exact⟨false,rfl,fun h=>by cases h⟩
         ·exact⟨true,rfl,fun _=>⟨by show at'.size<=60;omega,by show c.size<=60;omega,by show g.size<=60;omega,by show ko.size<=60;omega,by show ns.length<=10;omega,h⟩⟩
      ·exact⟨false,by simp only[h1,h2,h3,h4,h5,h6,decide_true,decide_false,Bool.not_false,cond_true,cond_false,o],fun h=>by cases h⟩
def lgA(m:Mt)(s:Qi)(a:Ya):Int:=if Qc a.2.1 Yw=true then Qan s (a.1,a.2.2)else if Qc a.2.1 Ys=true then Qbf s (a.1,a.2.2)else if Qc a.2.1 Y9=true then Qbc s (a.1,a.2.2)else if Qc a.2.1 Ym=true then Kj s (a.1,a.2.2)else if Qc a.2.1 Xd=true then Qa1 m s (a.1,a.2.2)else if Qc a.2.1 Xe=true then Ub m s (a.1,a.2.2)else if Qc a.2.1 Xa=true then Ua m s (a.1,a.2.2)else if Qc a.2.1 Y7=true then Qae m s (a.1,a.2.2)else 13
def nxA(s:Qi)(a:Ya):Qi:=if Qc a.2.1 Yw=true then U8 s (a.1,a.2.2)else if Qc a.2.1 Ys=true then U2 s (a.1,a.2.2)else if Qc a.2.1 Y9=true then Qax s (a.1,a.2.2)else if Qc a.2.1 Ym=true then Ui s (a.1,a.2.2)else if Qc a.2.1 Xd=true then Qa9 s (a.1,a.2.2)else if Qc a.2.1 Xe=true then Qb6 s (a.1,a.2.2)else if Qc a.2.1 Xa=true then Qag s (a.1,a.2.2)else if Qc a.2.1 Y7=true then U3 s (a.1,a.2.2)else s
noncomputable def mvK(F:Nat)(s:Qi)(a:Ya):Option Qi:=bif Qc a.2.1 YJ then(R (Qio F ((a.1,YJ,a.2.2),s)) fun(v:Qi)=>some v)else(bif Qc a.2.1 YF then(R (Qgq F ((a.1,YF,a.2.2),s)) fun(v:Qi)=>some v)else(bif Qc a.2.1 YG then(R (Qh1 F ((a.1,YG,a.2.2),s)) fun(v:Qi)=>some v)else(bif Qc a.2.1 YD then(R (Qgm F ((a.1,YD,a.2.2),s)) fun(v:Qi)=>some v)else(bif Qc a.2.1 YE then(R (Qgl F ((a.1,YE,a.2.2),s)) fun(v:Qi)=>some v)else(bif Qc a.2.1 YB then(R (Qib F ((a.1,YB,a.2.2),s)) fun(v:Qi)=>some v)else(bif Qc a.2.1 YH then(R (Qg7 F ((a.1,YH,a.2.2),s)) fun(v:Qi)=>some v)else(gd (Qc a.2.1 YI) (R (Qht F ((a.1,YI,a.2.2),s)) fun(v:Qi)=>some v))))))))
structure Uc (F:Nat) (m:Mt) (s:Qi) (a:Ya) (lg:Int) (nx:Qi):Prop where
 el:lgA m s a=lg
 en:nxA s a=nx
 p135:Ju F (m,s,a)=some lg
 p60:c60 F (m,s,a)=some lg
 p62:lg=0->c62 F (s,a)=some nx
 mv:lg=0->mvK F s a=some nx
theorem Ypf{F:Nat}(hF:700<=F){m:Mt}(hm:m.2.2.2.2.length<=300){s:Qi}(hS:Zr s){b:Q0}(hv:Z4 m=0)(ha:Zz b):Uc F m s (b.1,Yw,b.2) (Qan s b) (U8 s b):=by
 have hF4:400<=F:=by omega
 refine⟨rfl,rfl,Zq1 hF hm hS hv ha,Zqr hF hm hS hv ha,fun h=>?_,fun h=>?_⟩
 ·show Qh0 F (s,b)=_;exact Yjn hS b
 ·show(R (Qio F ((b.1,Yw,b.2),s)) fun(v:Qi)=>some v)=_;rw[Ycr hS Yw b];rfl
theorem Yom{F:Nat}(hF:700<=F){m:Mt}(hm:m.2.2.2.2.length<=300){s:Qi}(hS:Zr s){b:Q0}(hv:Z4 m=0)(ha:Zz b):Uc F m s (b.1,Ys,b.2) (Qbf s b) (U2 s b):=by
 have hF4:400<=F:=by omega
 refine⟨rfl,rfl,Znb hF hm hS hv ha,Zzj hF hm hS hv ha,fun h=>?_,fun h=>?_⟩
 ·show Qhq F (s,b)=_;exact Yor hS b
 ·show(R (Qgq F ((b.1,Ys,b.2),s)) fun(v:Qi)=>some v)=_;rw[Zsl hS Ys b];rfl
theorem Yr1{F:Nat}(hF:700<=F){m:Mt}(hm:m.2.2.2.2.length<=300){s:Qi}(hS:Zr s){b:Q0}(hv:Z4 m=0)(ha:Zz b):Uc F m s (b.1,Y9,b.2) (Qbc s b) (Qax s b):=by
 have hF4:400<=F:=by omega
 refine⟨rfl,rfl,Zw3 hF hm hS hv ha,Zp8 hF hm hS hv ha,fun h=>?_,fun h=>?_⟩
 ·show Qif F (s,b)=_;exact Ykw hS b
 ·show(R (Qh1 F ((b.1,Y9,b.2),s)) fun(v:Qi)=>some v)=_;rw[Yqm hS Y9 b];rfl
theorem Zot{F:Nat}(hF:700<=F){m:Mt}(hm:m.2.2.2.2.length<=300){s:Qi}(hS:Zr s){b:Q0}(hv:Z4 m=0)(ha:Zz b):Uc F m s (b.1,Ym,b.2) (Kj s b) (Ui s b):=by
 have hF4:400<=F:=by omega
 have hx:Kj s b=0->0<=aI s b.2.1:=fun h=>by unfold Kj at h;split at h<;>omega
 refine⟨rfl,rfl,Yly hF hm hS hv ha,Znc hF hm hS hv ha,fun h=>?_,fun h=>?_⟩
 ·show Qgy F (s,b)=_;exact Yhd hF4 hS (hx h)
 ·show(R (Qgm F ((b.1,Ym,b.2),s)) fun(v:Qi)=>some v)=_;rw[Zvo hF4 hS Ym (hx h)];rfl
theorem Yfl{F:Nat}(hF:700<=F){m:Mt}(hm:m.2.2.2.2.length<=300){s:Qi}(hS:Zr s){b:Q0}(hv:Z4 m=0)(ha:Zz b)(hk:Jp (U5 b)):Uc F m s (b.1,Xd,b.2) (Qa1 m s b) (Qa9 s b):=by
 have hF4:400<=F:=by omega
 refine⟨rfl,rfl,Znx hF hm hS hv ha hk,Ydr hF hm hS hv ha hk,fun h=>?_,fun h=>?_⟩
 ·show Qg4 F (s,b)=_;exact Zuv hS b
 ·show(R (Qgl F ((b.1,Xd,b.2),s)) fun(v:Qi)=>some v)=_;rw[Yfk hS Xd b];rfl
theorem Yg6{F:Nat}(hF:700<=F){m:Mt}(hm:m.2.2.2.2.length<=300){s:Qi}(hS:Zr s){b:Q0}(hv:Z4 m=0)(ha:Zz b):Uc F m s (b.1,Xe,b.2) (Ub m s b) (Qb6 s b):=by
 have hF4:400<=F:=by omega
 have hx:Ub m s b=0->0<=eI s b.2.1 b.2.2.2.2.1:=fun h=>by unfold Ub at h;split at h<;>omega
 refine⟨rfl,rfl,Yfr hF hm hS hv ha,Zus hF hm hS hv ha,fun h=>?_,fun h=>?_⟩
 ·show Qiz F (s,b)=_;exact Yr8 hF4 hS (hx h)
 ·show(R (Qib F ((b.1,Xe,b.2),s)) fun(v:Qi)=>some v)=_;rw[Yh9 hF4 hS Xe (hx h)];rfl
theorem Yau{F:Nat}(hF:700<=F){m:Mt}(hm:m.2.2.2.2.length<=300){s:Qi}(hS:Zr s){b:Q0}(hv:Z4 m=0)(ha:Zz b):Uc F m s (b.1,Xa,b.2) (Ua m s b) (Qag s b):=by
 have hF4:400<=F:=by omega
 have hx:Ua m s b=0->0<=eI s b.2.1 b.2.2.2.2.1:=fun h=>by unfold Ua at h;split at h<;>omega
 refine⟨rfl,rfl,Zog hF hm hS hv ha,Zt5 hF hm hS hv ha,fun h=>?_,fun h=>?_⟩
 ·show Qgo F (s,b)=_;exact Zv9 hF4 hS (hx h)
 ·show(R (Qg7 F ((b.1,Xa,b.2),s)) fun(v:Qi)=>some v)=_;rw[Zte hF4 hS Xa (hx h)];rfl
theorem Ynk{F:Nat}(hF:700<=F){m:Mt}(hm:m.2.2.2.2.length<=300){s:Qi}(hS:Zr s){b:Q0}(hv:Z4 m=0)(ha:Zz b):Uc F m s (b.1,Y7,b.2) (Qae m s b) (U3 s b):=by
 have hF4:400<=F:=by omega
 refine⟨rfl,rfl,Zum hF hm hS hv ha,Zvv hF hm hS hv ha,fun h=>?_,fun h=>?_⟩
 ·show Qh7 F (s,b)=_;exact Zzx hF4 hS ha.n
 ·show(R (Qht F ((b.1,Y7,b.2),s)) fun(v:Qi)=>some v)=_;rw[Yli hF4 hS Y7 ha.n];rfl
theorem Zjz{a:Ya}(h:Yz a=0):a.2.1=Yw∨a.2.1=Ys∨a.2.1=Y9∨a.2.1=Ym∨a.2.1=Xd∨a.2.1=Xe∨a.2.1=Xa∨a.2.1=Y7:=by
 by_cases h0:Qc a.2.1 Yw=true
 ·exact .inl (Yy.1 h0)
 have g0:=ZC.2 h0;by_cases h1:Qc a.2.1 Ys=true
 ·exact .inr (.inl (Yy.1 h1))
 have g1:=ZC.2 h1;by_cases h2:Qc a.2.1 Y9=true
 ·exact .inr (.inr (.inl (Yy.1 h2)))
 have g2:=ZC.2 h2;by_cases h3:Qc a.2.1 Ym=true
 ·exact .inr (.inr (.inr (.inl (Yy.1 h3))))
 have g3:=ZC.2 h3;by_cases h4:Qc a.2.1 Xd=true
 ·exact .inr (.inr (.inr (.inr (.inl (Yy.1 h4)))))
 have g4:=ZC.2 h4;by_cases h5:Qc a.2.1 Xe=true
 ·exact .inr (.inr (.inr (.inr (.inr (.inl (Yy.1 h5))))))
 have g5:=ZC.2 h5;by_cases h6:Qc a.2.1 Xa=true
 ·exact .inr (.inr (.inr (.inr (.inr (.inr (.inl (Yy.1 h6)))))))
 have g6:=ZC.2 h6;by_cases h7:Qc a.2.1 Y7=true
 ·exact .inr (.inr (.inr (.inr (.inr (.inr (.inr (Yy.1 h7)))))))
 have g7:=ZC.2 h7;exfalso;have h13:Yz a=13:=by unfold Yz;simp only[g0,g1,g2,g3,g4,g5,g6,g7,Bool.false_eq_true,if_false]
 rw[h13]at h;cases h
theorem Zbh{F:Nat}(hF:700<=F){m:Mt}(hm:m.2.2.2.2.length<=300){s:Qi}(hS:Zr s){a:Ya}(hv:Z4 m=0)(ha:Zz (a.1,a.2.2))(h0:Yz a=0):Uc F m s a (lgA m s a) (nxA s a):=by
 obtain⟨d,k,r⟩:=a;have key:∀lg nx,Uc F m s (d,k,r) lg nx->Uc F m s (d,k,r) (lgA m s (d,k,r)) (nxA s (d,k,r)):=fun lg nx h=>by rw[h.el,h.en];exact h
 rcases Zjz h0 with h|h|h|h|h|h|h|h
 ·obtain rfl:k=Yw:=h;exact key _ _ (Ypf hF hm hS (b:=(d,r)) hv ha)
 ·obtain rfl:k=Ys:=h;exact key _ _ (Yom hF hm hS (b:=(d,r)) hv ha)
 ·obtain rfl:k=Y9:=h;exact key _ _ (Yr1 hF hm hS (b:=(d,r)) hv ha)
 ·obtain rfl:k=Ym:=h;exact key _ _ (Zot hF hm hS (b:=(d,r)) hv ha)
 ·obtain rfl:k=Xd:=h;exact key _ _ (Yfl hF hm hS (b:=(d,r)) hv ha (Zjb h0))
 ·obtain rfl:k=Xe:=h;exact key _ _ (Yg6 hF hm hS (b:=(d,r)) hv ha)
 ·obtain rfl:k=Xa:=h;exact key _ _ (Yau hF hm hS (b:=(d,r)) hv ha)
 ·obtain rfl:k=Y7:=h;exact key _ _ (Ynk hF hm hS (b:=(d,r)) hv ha)
end Go.Proofs.Tryz
