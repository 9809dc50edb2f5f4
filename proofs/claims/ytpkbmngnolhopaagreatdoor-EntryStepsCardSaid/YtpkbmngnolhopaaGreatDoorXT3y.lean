/- Plain law: Next by kinds. Plain law: room for a meeting and a state. -/
import Derived.Test.YtpkbmngnolhopaaGreatDoorXTeD62
import Derived.Test.YtpkbmngnolhopaaGreatDoorXT3f
set_option maxRecDepth 100000
set_option linter.unusedVariables false
set_option linter.unusedSimpArgs false
open Option renaming bind_some->o
open Bool renaming and_self->C,true_and->R,and_true->U
open Nat renaming le_refl->I,zero_add->J
open Int renaming toNat_natCast->ZA
open List renaming eq_nil_of_length_eq_zero->ZB,drop_zero->ZC,length_set->ZD,take->ZE,take_length->ZF,take_of_length_le->ZG,drop->ZH,replicate->ZI
namespace Go.Proofs.Tryz
open Go Go.Sx
theorem Zwm{F:Nat}{l:List ByteArray}(h:l.length<=1000):Qmu F l=some l:=by
 have h1:l.length*16<=140737488355328:=by omega
 have h2:l.length<=9223372036854775807:=by omega
 unfold Qmu;simp only[Qhx,h1,h2,decide_true,Zh,o];by_cases h0:l.length=0
 ·obtain rfl:=ZB h0;rfl
 ·simp only[h0,decide_false,cond_false]
theorem Zkw{F:Nat}{l:List Ath}(h:l.length<=1000):Qhp F l=some l:=by
 have h1:l.length*56<=140737488355328:=by omega
 have h2:l.length<=9223372036854775807:=by omega
 unfold Qhp;simp only[Qhx,h1,h2,decide_true,Zh,o];by_cases h0:l.length=0
 ·obtain rfl:=ZB h0;rfl
 ·simp only[h0,decide_false,cond_false]
theorem Ybb{F:Nat}{l:List Lic}(h:l.length<=1000):Qlw F l=some l:=by
 have h1:l.length*32<=140737488355328:=by omega
 have h2:l.length<=9223372036854775807:=by omega
 unfold Qlw;simp only[Qhx,h1,h2,decide_true,Zh,o];by_cases h0:l.length=0
 ·obtain rfl:=ZB h0;rfl
 ·simp only[h0,decide_false,cond_false]
theorem Qvh{F:Nat}{l:List Zo}(h:l.length<=1000):Qfh F l=some l:=by
 have h1:l.length*88<=140737488355328:=by omega
 have h2:l.length<=9223372036854775807:=by omega
 unfold Qfh;simp only[Qhx,h1,h2,decide_true,Zh,o];by_cases h0:l.length=0
 ·obtain rfl:=ZB h0;rfl
 ·simp only[h0,decide_false,cond_false]
def Jy(s:Qj)(b:Qx):Qj:=(s.1++[b.2.2.1],s.2)
def Jw(s:Qj)(b:Qx):Qj:=(s.1,s.2.1++[(b.2.1,b.2.2.1,b.2.2.2.2.2.1,b.2.2.2.1)],s.2.2)
def J5(s:Qj)(b:Qx):Qj:=(s.1,s.2.1,s.2.2.1++[(b.2.1,b.2.2.2.2.2.1,b.2.2.2.2.2.2.1)],s.2.2.2)
def Ju(s:Qj)(b:Qx):Qj:=(s.1,s.2.1.set (aI s b.2.1).toNat ((Y1 s b.2.1).1,b.2.2.1,(Y1 s b.2.1).2.2.1,(Y1 s b.2.1).2.2.2),s.2.2)
def Wa(s:Qj)(b:Qx):Qj:=(s.1,s.2.1,s.2.2.1,s.2.2.2.1++[(b.2.1,b.2.2.2.2.1,b.2.2.2.2.2.2.2.1,b.2.2.2.2.2.2.2.2.1,b.2.2.2.2.2.2.2.2.2.1,b.1,false)],s.2.2.2.2)
def Wj(s:Qj)(b:Qx):Qj:=(s.1,s.2.1,s.2.2.1,s.2.2.2.1.take (eI s b.2.1 b.2.2.2.2.1).toNat++s.2.2.2.1.drop ((eI s b.2.1 b.2.2.2.2.1).toNat+1),s.2.2.2.2)
def Qlq(e:Zo):Zo:=(e.1,e.2.1,e.2.2.1,e.2.2.2.1,e.2.2.2.2.1,e.2.2.2.2.2.1,true)
def J9(s:Qj)(b:Qx):Qj:=(s.1,s.2.1,s.2.2.1,s.2.2.2.1.set (eI s b.2.1 b.2.2.2.2.1).toNat (Qlq (Vs s b.2.1 b.2.2.2.2.1)),s.2.2.2.2)
def Ji(s:Qj)(b:Qx):Qj:=(s.1,s.2.1,s.2.2.1,s.2.2.2.1,if tI s b.2.2.1 b.2.2.2.2.1<0 then s.2.2.2.2++[(b.2.2.1,b.2.2.2.2.1,b.2.2.2.2.2.2.2.2.2.2)]else s.2.2.2.2.set (tI s b.2.2.1 b.2.2.2.2.1).toNat (b.2.2.1,b.2.2.2.2.1,b.2.2.2.2.2.2.2.2.2.2))
theorem tk{α:Type}(l:List α):ZE l.length (ZH 0 l)=l:=by rw[ZC,ZF]
theorem Qpv(y:List Ath):Qt.eqv (Qe.val (Ty.seq kt3)::Qa Qe) y y=true:=Qt.eqv_rf (Qe.val (Ty.seq kt3)::Qa Qe) y
theorem Qqh(y:List Lic):Qt.eqv (Qe.val (Ty.seq kt2)::Qa Qe) y y=true:=Qt.eqv_rf (Qe.val (Ty.seq kt2)::Qa Qe) y
theorem Qsc(y:List Zo):Qt.eqv (Qe.val (Ty.seq Zr)::Qa Qe) y y=true:=Qt.eqv_rf (Qe.val (Ty.seq Zr)::Qa Qe) y
theorem Qka(y:List Tm):Qt.eqv (Qe.val (Ty.seq kt9)::Qa Qe) y y=true:=Qt.eqv_rf (Qe.val (Ty.seq kt9)::Qa Qe) y
theorem Ziu{F:Nat}{s:Qj}(h:Za s)(k:ByteArray)(b:Qx):Qds F ((b.1,k,b.2),s)=some (Jy s b):=by
 have h1:=h.c;have hl:(s.1++[b.2.2.1]).length<=301:=by simp;omega
 have e:∀y:ByteArray,y::Qa ByteArray=[y]:=fun _=>rfl;have n:∀l:List ByteArray,Qa ByteArray++l=l:=fun _=>rfl;unfold Qds Qyw Jy;simp(disch:=omega)only[Q3,Zwm (F:=F) (l:=s.1) (by omega),e,Zf,tk,J,I,decide_true,C,Zh,o,Qpv,Qqh,Qsc,Qka]
theorem Zlh{F:Nat}{s:Qj}(h:Za s)(b:Qx):Qgb F (s,b)=some (Jy s b):=by
 have h1:=h.c;have hl:(s.1++[b.2.2.1]).length<=301:=by simp;omega
 have e:∀y:ByteArray,y::Qa ByteArray=[y]:=fun _=>rfl;have n:∀l:List ByteArray,Qa ByteArray++l=l:=fun _=>rfl;unfold Qgb Jy tw;simp(disch:=omega)only[Q3,n,e,Zf,tk,J,I,decide_true,C,R,U,Zh,o,Qbk]
theorem Zen{F:Nat}{s:Qj}(h:Za s)(k:ByteArray)(b:Qx):Qei F ((b.1,k,b.2),s)=some (Jw s b):=by
 have h1:=h.a;have hl:(s.2.1++[(b.2.1,b.2.2.1,b.2.2.2.2.2.1,b.2.2.2.1)]).length<=301:=by simp;omega
 have e:∀y:Ath,y::Qa Ath=[y]:=fun _=>rfl;have n:∀l:List Ath,Qa Ath++l=l:=fun _=>rfl;unfold Qei Qtn Jw tw;simp(disch:=omega)only[Q3,Zkw (F:=F) (l:=s.2.1) (by omega),e,Zf,tk,J,I,decide_true,C,Zh,o,Qpv,Qqh,Qsc,Qka]
theorem Zar{F:Nat}{s:Qj}(h:Za s)(b:Qx):Qgn F (s,b)=some (Jw s b):=by
 have h1:=h.a;have hl:(s.2.1++[(b.2.1,b.2.2.1,b.2.2.2.2.2.1,b.2.2.2.1)]).length<=301:=by simp;omega
 have e:∀y:Ath,y::Qa Ath=[y]:=fun _=>rfl;have n:∀l:List Ath,Qa Ath++l=l:=fun _=>rfl;unfold Qgn Jw tw;simp(disch:=omega)only[Q3,n,e,Zf,tk,J,I,decide_true,C,R,U,Zh,o,Qbk]
theorem Zdo{F:Nat}{s:Qj}(h:Za s)(k:ByteArray)(b:Qx):Qdp F ((b.1,k,b.2),s)=some (J5 s b):=by
 have h1:=h.l;have hl:(s.2.2.1++[(b.2.1,b.2.2.2.2.2.1,b.2.2.2.2.2.2.1)]).length<=301:=by simp;omega
 have e:∀y:Lic,y::Qa Lic=[y]:=fun _=>rfl;have n:∀l:List Lic,Qa Lic++l=l:=fun _=>rfl;unfold Qdp Qzi J5 tw;simp(disch:=omega)only[Q3,Ybb (F:=F) (l:=s.2.2.1) (by omega),e,Zf,tk,J,I,decide_true,C,Zh,o,Qpv,Qqh,Qsc,Qka]
theorem Zj8{F:Nat}{s:Qj}(h:Za s)(b:Qx):Qff F (s,b)=some (J5 s b):=by
 have h1:=h.l;have hl:(s.2.2.1++[(b.2.1,b.2.2.2.2.2.1,b.2.2.2.2.2.2.1)]).length<=301:=by simp;omega
 have e:∀y:Lic,y::Qa Lic=[y]:=fun _=>rfl;have n:∀l:List Lic,Qa Lic++l=l:=fun _=>rfl;unfold Qff J5 tw;simp(disch:=omega)only[Q3,n,e,Zf,tk,J,I,decide_true,C,R,U,Zh,o,Qbk]
theorem Zij{F:Nat}{s:Qj}(h:Za s)(k:ByteArray)(b:Qx):Qdd F ((b.1,k,b.2),s)=some (Wa s b):=by
 have h1:=h.e;have hl:(s.2.2.2.1++[(b.2.1,b.2.2.2.2.1,b.2.2.2.2.2.2.2.1,b.2.2.2.2.2.2.2.2.1,b.2.2.2.2.2.2.2.2.2.1,b.1,false)]).length<=301:=by simp;omega
 have e:∀y:Zo,y::Qa Zo=[y]:=fun _=>rfl;have n:∀l:List Zo,Qa Zo++l=l:=fun _=>rfl;unfold Qdd Qyu Wa tw;simp(disch:=omega)only[Q3,Qvh (F:=F) (l:=s.2.2.2.1) (by omega),e,Zf,tk,J,I,decide_true,C,Zh,o,Qpv,Qqh,Qsc,Qka]
theorem Zht{F:Nat}{s:Qj}(h:Za s)(b:Qx):Qf5 F (s,b)=some (Wa s b):=by
 have h1:=h.e;have hl:(s.2.2.2.1++[(b.2.1,b.2.2.2.2.1,b.2.2.2.2.2.2.2.1,b.2.2.2.2.2.2.2.2.1,b.2.2.2.2.2.2.2.2.2.1,b.1,false)]).length<=301:=by simp;omega
 have e:∀y:Zo,y::Qa Zo=[y]:=fun _=>rfl;have n:∀l:List Zo,Qa Zo++l=l:=fun _=>rfl;unfold Qf5 Wa tw;simp(disch:=omega)only[Q3,n,e,Zf,tk,J,I,decide_true,C,R,U,Zh,o,Qbk]
theorem Qh7{α:Type}(l:List α)(j:Nat)(x:α):ZE l.length (l.set j x)=l.set j x:=by rw[ZG (by rw[ZD];exact I _)]
theorem Zkx{F:Nat}(hF:400<=F){s:Qj}(h:Za s)(k:ByteArray){b:Qx}(hx:0<=aI s b.2.1):Qc9 F ((b.1,k,b.2),s)=some (Ju s b):=by
 have h1:=h.a;obtain⟨j,j1,j2⟩:=Qfq hx;have hd:Zy=dA:=rfl;have hA:s.2.1.getD j dA=Y1 s b.2.1:=by unfold Y1;rw[j1];rfl
 unfold Qc9 Ju;simp only[Q3,Zkw (F:=F) (l:=s.2.1) (by omega),tk,K4 hF h,hd,j1,J,I,decide_true,C,Zh,o];have hlen:(s.2.1.set j ((Y1 s b.2.1).1,b.2.2.1,(Y1 s b.2.1).2.2.1,(Y1 s b.2.1).2.2.2)).length=s.2.1.length:=ZD;simp(disch:=omega)only[Zf,ZA,hA,hlen,I,decide_true,C,R,U,Zh,ZC,Qh7]
theorem Zd2{F:Nat}(hF:400<=F){s:Qj}(h:Za s){b:Qx}(hx:0<=aI s b.2.1):Qeq F (s,b)=some (Ju s b):=by
 have h1:=h.a;obtain⟨j,j1,j2⟩:=Qfq hx;have hd:Zy=dA:=rfl;have hA:s.2.1.getD j dA=Y1 s b.2.1:=by unfold Y1;rw[j1];rfl
 have n:∀l:List Ath,Qa Ath++l=l:=fun _=>rfl;unfold Qeq Ju;have hlen:(s.2.1.set j ((Y1 s b.2.1).1,b.2.2.1,(Y1 s b.2.1).2.2.1,(Y1 s b.2.1).2.2.2)).length=s.2.1.length:=ZD;simp(disch:=omega)only[Q3,n,tk,l40 hF h,hd,j1,Zf,ZA,hA,hlen,J,I,decide_true,C,R,U,Zh,o,ZC,ZF,Qh7]
theorem Qr7{s:Qj}{a c:ByteArray}(h:0<=eI s a c):∃k:Nat,eI s a c=k∧k<s.2.2.2.1.length:=by obtain⟨k,y,h1,h2,h3,h4⟩:=W1 (p:=eP a c) (l:=s.2.2.2.1) h;exact⟨k,h1,h2⟩
theorem Zc7{F:Nat}(hF:400<=F){s:Qj}(h:Za s)(k:ByteArray){b:Qx}(hx:0<=eI s b.2.1 b.2.2.2.2.1):Qee F ((b.1,k,b.2),s)=some (J9 s b):=by
 have h1:=h.e;obtain⟨j,j1,j2⟩:=Qr7 hx;have hA:s.2.2.2.1.getD j dE=Vs s b.2.1 b.2.2.2.2.1:=by unfold Vs;rw[j1];rfl
 unfold Qee J9 Qlq;simp only[Q3,Qvh (F:=F) (l:=s.2.2.2.1) (by omega),tk,Qjh hF h,tE,j1,J,I,decide_true,C,Zh,o];generalize hy:(Vs s b.2.1 b.2.2.2.2.1)=y at hA;have hlen:(s.2.2.2.1.set j (y.1,y.2.1,y.2.2.1,y.2.2.2.1,y.2.2.2.2.1,y.2.2.2.2.2.1,true)).length=s.2.2.2.1.length:=ZD;simp(disch:=omega)only[Zf,ZA,hA,hlen,I,decide_true,C,R,U,Zh,ZC,Qh7]
theorem Zlw{F:Nat}(hF:400<=F){s:Qj}(h:Za s){b:Qx}(hx:0<=eI s b.2.1 b.2.2.2.2.1):Qf2 F (s,b)=some (J9 s b):=by
 have h1:=h.e;obtain⟨j,j1,j2⟩:=Qr7 hx;have hA:s.2.2.2.1.getD j dE=Vs s b.2.1 b.2.2.2.2.1:=by unfold Vs;rw[j1];rfl
 have n:∀l:List Zo,Qa Zo++l=l:=fun _=>rfl;unfold Qf2 J9 Qlq;generalize hy:(Vs s b.2.1 b.2.2.2.2.1)=y at hA;have hlen:(s.2.2.2.1.set j (y.1,y.2.1,y.2.2.1,y.2.2.2.1,y.2.2.2.2.1,y.2.2.2.2.2.1,true)).length=s.2.2.2.1.length:=ZD;simp(disch:=omega)only[Q3,n,tk,l53 hF h,tE,j1,Zf,ZA,hA,hlen,J,I,decide_true,C,R,U,Zh,o,ZC,ZF,Qh7]
theorem Zjl{α:Type}{A X Y:List α}{n:Nat}(h:n<=A.length):ZE n (ZH 0 (ZE n A++X++Y))=ZE n A:=by rw[ZC,List.append_assoc,List.take_append_of_le_length (by rw[List.length_take];omega),List.take_take,Nat.min_self]
theorem Yjo{α:Type}{L:List α}{j:Nat}(h:j<L.length):ZE (j+(L.length-(j+1))) (Wg L j (j+1) (L.length-(j+1)))=L.take j++L.drop (j+1):=by have e:(L.drop (j+1)).take (L.length-(j+1))=L.drop (j+1):=ZG (by rw[List.length_drop];omega);unfold Wg;rw[e];exact List.take_left' (by simp;omega)
theorem Zfk{F:Nat}(hF:400<=F){s:Qj}(h:Za s)(k:ByteArray){b:Qx}(hx:0<=eI s b.2.1 b.2.2.2.2.1):Qem F ((b.1,k,b.2),s)=some (Wj s b):=by
 have h1:=h.e;obtain⟨j,j1,j2⟩:=Qr7 hx;have hw:w64 ((j:Int)+1)=((j+1:Nat):Int):=by rw[Zv (by omega) (by omega)];rfl
 have hne:¬((j:Nat):Int)=((j+1:Nat):Int):=by omega
 unfold Qem Wj;simp only[Q3,Qvh (F:=F) (l:=s.2.2.2.1) (by omega),tk,Qjh hF h,tE,j1,hw,hne,J,Nat.sub_zero,ZA,I,decide_true,decide_false,cond_false,C,Zh,o];generalize s.2.2.2.1=L at h1 j2;by_cases p1:L.length-(j+1)=0
 ·have hA:∀z:Zo,j<=(ZE j L++ZI (L.length-j) z++ZH (j+(L.length-j)) L).length:=by intro z;simp;omega
  have hB:ZH (j+1) L=[]:=List.drop_of_length_le (by omega);simp(disch:=omega)only[Zf,p1,hA,Zjl (show j<=L.length by omega),hB,List.append_nil,I,decide_true,cond_true,C,R,U,Zh,o]
 ·have hm1:(Wg L j (j+1) (L.length-(j+1))).length=L.length:=Qso (by omega) (by omega);have hA:∀z:Zo,j+(L.length-(j+1))<=(ZE (j+(L.length-(j+1))) (Wg L j (j+1) (L.length-(j+1)))++ZI (L.length-(j+(L.length-(j+1)))) z++ZH (j+(L.length-(j+1))+(L.length-(j+(L.length-(j+1))))) (Wg L j (j+1) (L.length-(j+1)))).length:=by intro z;simp[hm1];omega
  simp(disch:=omega)only[Zf,p1,hA,hm1,Zjl (A:=Wg L j (j+1) (L.length-(j+1))) (show j+(L.length-(j+1))<=_ by rw[hm1];omega),I,decide_true,decide_false,cond_false,C,R,U,Zh,o];rw[Yjo j2]
theorem Zh5{F:Nat}(hF:400<=F){s:Qj}(h:Za s){b:Qx}(hx:0<=eI s b.2.1 b.2.2.2.2.1):Qgy F (s,b)=some (Wj s b):=by
 have h1:=h.e;obtain⟨j,j1,j2⟩:=Qr7 hx;have hw:w64 ((j:Int)+1)=((j+1:Nat):Int):=by rw[Zv (by omega) (by omega)];rfl
 have n:∀l:List Zo,Qa Zo++l=l:=fun _=>rfl;unfold Qgy Wj;simp only[Q3,n,tk,l53 hF h,tE,j1,hw,J,Nat.sub_zero,ZA,I,decide_true,decide_false,cond_false,C,Zh,o];have hl1:(s.2.2.2.1.take j).length<=300:=by simp;omega
 have hl2:(s.2.2.2.1.take j++s.2.2.2.1.drop (j+1)).length<=300:=by simp;omega
 simp(disch:=omega)only[ZC,ZF,Zf]
theorem Zgm{s:Qj}{a c:ByteArray}(h:0<=tI s a c):∃k:Nat,tI s a c=k∧k<s.2.2.2.2.length:=by obtain⟨k,y,h1,h2,h3,h4⟩:=W1 (p:=tP a c) (l:=s.2.2.2.2) h;exact⟨k,h1,h2⟩
theorem Qov(y:Qj):Yo.eqv (Qu.one 0 31 Ze::Qa Qu) y y=true:=Yo.eqv_rf (Qu.one 0 31 Ze::Qa Qu) y
theorem Zax{F:Nat}(hF:400<=F){s:Qj}(h:Za s)(k:ByteArray){b:Qx}(hb:b.2.2.2.2.2.2.2.2.2.2.length<=10):Qdk F ((b.1,k,b.2),s)=some (Ji s b):=by
 have h1:=h.t;have hl:(s.2.2.2.2++[(b.2.2.1,b.2.2.2.2.1,b.2.2.2.2.2.2.2.2.2.2)]).length<=301:=by simp;omega
 have e:∀y:Tm,y::Qa Tm=[y]:=fun _=>rfl;unfold Qdk Qyb Ji tw;simp(disch:=omega)only[Q3,e,Ziq (F:=F) (l:=s.2.2.2.2) (by omega),Zaq (F:=F) (l:=b.2.2.2.2.2.2.2.2.2.2) (by omega),Zfc hF h,tk,Zf,J,I,decide_true,C,Zh,o,Qka];by_cases p1:tI s b.2.2.1 b.2.2.2.2.1<0
 ·simp only[p1,decide_true,cond_true,if_true,o,Qbk,Qov,Zh]
 ·obtain⟨j,j1,j2⟩:=Zgm (s:=s) (a:=b.2.2.1) (c:=b.2.2.2.2.1) (by omega);have hlen:(s.2.2.2.2.set j (b.2.2.1,b.2.2.2.2.1,b.2.2.2.2.2.2.2.2.2.2)).length=s.2.2.2.2.length:=ZD;simp(disch:=omega)only[j1,p1,show¬((j:Nat):Int)<0 by omega,decide_false,cond_false,if_false,Zf,ZA,hlen,I,decide_true,C,R,U,Zh,o,ZC,Qh7,Qbk,Qov]
theorem Zkm{F:Nat}(hF:400<=F){s:Qj}(h:Za s){b:Qx}(hb:b.2.2.2.2.2.2.2.2.2.2.length<=10):Qe1 F (s,b)=some (Ji s b):=by
 have h1:=h.t;have hl:(s.2.2.2.2++[(b.2.2.1,b.2.2.2.2.1,b.2.2.2.2.2.2.2.2.2.2)]).length<=301:=by simp;omega
 have e:∀y:Tm,y::Qa Tm=[y]:=fun _=>rfl;have n:∀l:List Tm,Qa Tm++l=l:=fun _=>rfl;have n2:∀l:List ByteArray,Qa ByteArray++l=l:=fun _=>rfl;unfold Qe1 Ji tw;simp(disch:=omega)only[Q3,e,n,n2,Zie hF h,tk,Zf,J,I,decide_true,C,Zh,o];by_cases p1:tI s b.2.2.1 b.2.2.2.2.1<0
 ·simp only[p1,decide_true,cond_true,if_true,o,Qbk,Qov,Zh]
 ·obtain⟨j,j1,j2⟩:=Zgm (s:=s) (a:=b.2.2.1) (c:=b.2.2.2.2.1) (by omega);have hlen:(s.2.2.2.2.set j (b.2.2.1,b.2.2.2.2.1,b.2.2.2.2.2.2.2.2.2.2)).length=s.2.2.2.2.length:=ZD;simp(disch:=omega)only[j1,p1,show¬((j:Nat):Int)<0 by omega,decide_false,cond_false,if_false,Zf,ZA,hlen,I,decide_true,C,R,U,Zh,o,ZC,Qh7,Qbk,Qov]
abbrev atM:Qe:=.agg [.int .i64,.int .i64,.int .i64,.int .i64,.seq [.str,.str,.str,.int .i64,.int .i64,.int .i64,.int .i64,.str,.int .i64,.str,.int .i64]]
theorem okM{m:Mt}(h:Qe.ok atM m):m.2.2.2.2.length*128<=140737488355328:=by obtain⟨-,-,-,-,h,-⟩:=h;have h:m.2.2.2.2.length*128<=140737488351232:=h;omega
theorem MtS.bd{m:Mt}(h:MtS m):∀x∈m.2.2.2.2,x.1.size<=300∧x.2.2.1.size<=300:=fun x hx=>by have:=h.c x hx;unfold CsS at this;omega
theorem MtS.len{m:Mt}(h:MtS m):m.2.2.2.2.length<=300:=by have:=h.n;omega
end Go.Proofs.Tryz
