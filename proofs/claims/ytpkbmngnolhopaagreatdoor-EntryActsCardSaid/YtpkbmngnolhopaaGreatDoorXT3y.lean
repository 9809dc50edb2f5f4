/- Plain law: Next by kinds. Plain law: room for a meeting and a state. -/
import Derived.Test.YtpkbmngnolhopaaGreatDoorXTeD62
import Derived.Test.YtpkbmngnolhopaaGreatDoorXT3f
set_option maxRecDepth 100000
set_option linter.unusedVariables false
set_option linter.unusedSimpArgs false
namespace Go.Proofs.Tryz
open Go Go.Sx
theorem Yiv{F:Nat}{l:List ByteArray}(h:l.length≤1000):Qjr F l=some l:=by
 have h1:l.length*16≤140737488355328:=by omega
 have h2:l.length≤9223372036854775807:=by omega
 unfold Qjr;simp only[Qhl,h1,h2,decide_true,Zh,Option.bind_some];by_cases h0:l.length=0
 ·obtain rfl:=List.eq_nil_of_length_eq_zero h0;rfl
 ·simp only[h0,decide_false,cond_false]
theorem Zii{F:Nat}{l:List Ath}(h:l.length≤1000):Qir F l=some l:=by
 have h1:l.length*56≤140737488355328:=by omega
 have h2:l.length≤9223372036854775807:=by omega
 unfold Qir;simp only[Qhl,h1,h2,decide_true,Zh,Option.bind_some];by_cases h0:l.length=0
 ·obtain rfl:=List.eq_nil_of_length_eq_zero h0;rfl
 ·simp only[h0,decide_false,cond_false]
theorem Zq0{F:Nat}{l:List Lic}(h:l.length≤1000):Qmc F l=some l:=by
 have h1:l.length*32≤140737488355328:=by omega
 have h2:l.length≤9223372036854775807:=by omega
 unfold Qmc;simp only[Qhl,h1,h2,decide_true,Zh,Option.bind_some];by_cases h0:l.length=0
 ·obtain rfl:=List.eq_nil_of_length_eq_zero h0;rfl
 ·simp only[h0,decide_false,cond_false]
theorem Qtl{F:Nat}{l:List Zt}(h:l.length≤1000):Qf0 F l=some l:=by
 have h1:l.length*88≤140737488355328:=by omega
 have h2:l.length≤9223372036854775807:=by omega
 unfold Qf0;simp only[Qhl,h1,h2,decide_true,Zh,Option.bind_some];by_cases h0:l.length=0
 ·obtain rfl:=List.eq_nil_of_length_eq_zero h0;rfl
 ·simp only[h0,decide_false,cond_false]
def Vi(s:Qq)(b:Q1):Qq:=(s.1++[b.2.2.1],s.2)
def Vl(s:Qq)(b:Q1):Qq:=(s.1,s.2.1++[(b.2.1,b.2.2.1,b.2.2.2.2.2.1,b.2.2.2.1)],s.2.2)
def W7(s:Qq)(b:Q1):Qq:=(s.1,s.2.1,s.2.2.1++[(b.2.1,b.2.2.2.2.2.1,b.2.2.2.2.2.2.1)],s.2.2.2)
def W3(s:Qq)(b:Q1):Qq:=(s.1,s.2.1.set (aI s b.2.1).toNat ((Xc s b.2.1).1,b.2.2.1,(Xc s b.2.1).2.2.1,(Xc s b.2.1).2.2.2),s.2.2)
def Vj(s:Qq)(b:Q1):Qq:=(s.1,s.2.1,s.2.2.1,s.2.2.2.1++[(b.2.1,b.2.2.2.2.1,b.2.2.2.2.2.2.2.1,b.2.2.2.2.2.2.2.2.1,b.2.2.2.2.2.2.2.2.2.1,b.1,false)],s.2.2.2.2)
def W0(s:Qq)(b:Q1):Qq:=(s.1,s.2.1,s.2.2.1,s.2.2.2.1.take (eI s b.2.1 b.2.2.2.2.1).toNat++s.2.2.2.1.drop ((eI s b.2.1 b.2.2.2.2.1).toNat+1),s.2.2.2.2)
def Qxk(e:Zt):Zt:=(e.1,e.2.1,e.2.2.1,e.2.2.2.1,e.2.2.2.2.1,e.2.2.2.2.2.1,true)
def Vh(s:Qq)(b:Q1):Qq:=(s.1,s.2.1,s.2.2.1,s.2.2.2.1.set (eI s b.2.1 b.2.2.2.2.1).toNat (Qxk (Qao s b.2.1 b.2.2.2.2.1)),s.2.2.2.2)
def Wl(s:Qq)(b:Q1):Qq:=(s.1,s.2.1,s.2.2.1,s.2.2.2.1,if tI s b.2.2.1 b.2.2.2.2.1<0 then s.2.2.2.2++[(b.2.2.1,b.2.2.2.2.1,b.2.2.2.2.2.2.2.2.2.2)]else s.2.2.2.2.set (tI s b.2.2.1 b.2.2.2.2.1).toNat (b.2.2.1,b.2.2.2.2.1,b.2.2.2.2.2.2.2.2.2.2))
theorem tk{α:Type}(l:List α):List.take l.length (List.drop 0 l)=l:=by rw[List.drop_zero,List.take_length]
theorem Qph(y:List Ath):Qm.eqv (Qd.val (Ty.seq Xi)::Qa Qd) y y=true:=Qm.eqv_rf (Qd.val (Ty.seq Xi)::Qa Qd) y
theorem Qrw(y:List Lic):Qm.eqv (Qd.val (Ty.seq Xp)::Qa Qd) y y=true:=Qm.eqv_rf (Qd.val (Ty.seq Xp)::Qa Qd) y
theorem Qpa(y:List Zt):Qm.eqv (Qd.val (Ty.seq Zo)::Qa Qd) y y=true:=Qm.eqv_rf (Qd.val (Ty.seq Zo)::Qa Qd) y
theorem Qkg(y:List Tm):Qm.eqv (Qd.val (Ty.seq Yt)::Qa Qd) y y=true:=Qm.eqv_rf (Qd.val (Ty.seq Yt)::Qa Qd) y
theorem Yaq{F:Nat}{s:Qq}(h:Zi s)(k:ByteArray)(b:Q1):Qm7 F ((b.1,k,b.2),s)=some (Vi s b):=by
 have h1:=h.c;have hl:(s.1++[b.2.2.1]).length≤301:=by simp;omega
 have e:∀y:ByteArray,y::Qa ByteArray=[y]:=fun _=>rfl;have n:∀l:List ByteArray,Qa ByteArray++l=l:=fun _=>rfl;unfold Qm7 Qsp Vi;simp(disch:=omega)only[Q3,Yiv (F:=F) (l:=s.1) (by omega),e,Zd,tk,Nat.zero_add,Nat.le_refl,decide_true,Bool.and_self,Zh,Option.bind_some,Qph,Qrw,Qpa,Qkg]
theorem Zzy{F:Nat}{s:Qq}(h:Zi s)(b:Q1):Qh8 F (s,b)=some (Vi s b):=by
 have h1:=h.c;have hl:(s.1++[b.2.2.1]).length≤301:=by simp;omega
 have e:∀y:ByteArray,y::Qa ByteArray=[y]:=fun _=>rfl;have n:∀l:List ByteArray,Qa ByteArray++l=l:=fun _=>rfl;unfold Qh8 Vi tw;simp(disch:=omega)only[Q3,n,e,Zd,tk,Nat.zero_add,Nat.le_refl,decide_true,Bool.and_self,Bool.true_and,Bool.and_true,Zh,Option.bind_some,Qcg]
theorem Zxn{F:Nat}{s:Qq}(h:Zi s)(k:ByteArray)(b:Q1):Qm5 F ((b.1,k,b.2),s)=some (Vl s b):=by
 have h1:=h.a;have hl:(s.2.1++[(b.2.1,b.2.2.1,b.2.2.2.2.2.1,b.2.2.2.1)]).length≤301:=by simp;omega
 have e:∀y:Ath,y::Qa Ath=[y]:=fun _=>rfl;have n:∀l:List Ath,Qa Ath++l=l:=fun _=>rfl;unfold Qm5 Qta Vl tw;simp(disch:=omega)only[Q3,Zii (F:=F) (l:=s.2.1) (by omega),e,Zd,tk,Nat.zero_add,Nat.le_refl,decide_true,Bool.and_self,Zh,Option.bind_some,Qph,Qrw,Qpa,Qkg]
theorem Zug{F:Nat}{s:Qq}(h:Zi s)(b:Q1):Qhs F (s,b)=some (Vl s b):=by
 have h1:=h.a;have hl:(s.2.1++[(b.2.1,b.2.2.1,b.2.2.2.2.2.1,b.2.2.2.1)]).length≤301:=by simp;omega
 have e:∀y:Ath,y::Qa Ath=[y]:=fun _=>rfl;have n:∀l:List Ath,Qa Ath++l=l:=fun _=>rfl;unfold Qhs Vl tw;simp(disch:=omega)only[Q3,n,e,Zd,tk,Nat.zero_add,Nat.le_refl,decide_true,Bool.and_self,Bool.true_and,Bool.and_true,Zh,Option.bind_some,Qcg]
theorem Zr9{F:Nat}{s:Qq}(h:Zi s)(k:ByteArray)(b:Q1):Qns F ((b.1,k,b.2),s)=some (W7 s b):=by
 have h1:=h.l;have hl:(s.2.2.1++[(b.2.1,b.2.2.2.2.2.1,b.2.2.2.2.2.2.1)]).length≤301:=by simp;omega
 have e:∀y:Lic,y::Qa Lic=[y]:=fun _=>rfl;have n:∀l:List Lic,Qa Lic++l=l:=fun _=>rfl;unfold Qns Qs4 W7 tw;simp(disch:=omega)only[Q3,Zq0 (F:=F) (l:=s.2.2.1) (by omega),e,Zd,tk,Nat.zero_add,Nat.le_refl,decide_true,Bool.and_self,Zh,Option.bind_some,Qph,Qrw,Qpa,Qkg]
theorem Yhz{F:Nat}{s:Qq}(h:Zi s)(b:Q1):Qhj F (s,b)=some (W7 s b):=by
 have h1:=h.l;have hl:(s.2.2.1++[(b.2.1,b.2.2.2.2.2.1,b.2.2.2.2.2.2.1)]).length≤301:=by simp;omega
 have e:∀y:Lic,y::Qa Lic=[y]:=fun _=>rfl;have n:∀l:List Lic,Qa Lic++l=l:=fun _=>rfl;unfold Qhj W7 tw;simp(disch:=omega)only[Q3,n,e,Zd,tk,Nat.zero_add,Nat.le_refl,decide_true,Bool.and_self,Bool.true_and,Bool.and_true,Zh,Option.bind_some,Qcg]
theorem Yaw{F:Nat}{s:Qq}(h:Zi s)(k:ByteArray)(b:Q1):Qrb F ((b.1,k,b.2),s)=some (Vj s b):=by
 have h1:=h.e;have hl:(s.2.2.2.1++[(b.2.1,b.2.2.2.2.1,b.2.2.2.2.2.2.2.1,b.2.2.2.2.2.2.2.2.1,b.2.2.2.2.2.2.2.2.2.1,b.1,false)]).length≤301:=by simp;omega
 have e:∀y:Zt,y::Qa Zt=[y]:=fun _=>rfl;have n:∀l:List Zt,Qa Zt++l=l:=fun _=>rfl;unfold Qrb Qs1 Vj tw;simp(disch:=omega)only[Q3,Qtl (F:=F) (l:=s.2.2.2.1) (by omega),e,Zd,tk,Nat.zero_add,Nat.le_refl,decide_true,Bool.and_self,Zh,Option.bind_some,Qph,Qrw,Qpa,Qkg]
theorem Ya8{F:Nat}{s:Qq}(h:Zi s)(b:Q1):Qis F (s,b)=some (Vj s b):=by
 have h1:=h.e;have hl:(s.2.2.2.1++[(b.2.1,b.2.2.2.2.1,b.2.2.2.2.2.2.2.1,b.2.2.2.2.2.2.2.2.1,b.2.2.2.2.2.2.2.2.2.1,b.1,false)]).length≤301:=by simp;omega
 have e:∀y:Zt,y::Qa Zt=[y]:=fun _=>rfl;have n:∀l:List Zt,Qa Zt++l=l:=fun _=>rfl;unfold Qis Vj tw;simp(disch:=omega)only[Q3,n,e,Zd,tk,Nat.zero_add,Nat.le_refl,decide_true,Bool.and_self,Bool.true_and,Bool.and_true,Zh,Option.bind_some,Qcg]
theorem Qh0{α:Type}(l:List α)(j:Nat)(x:α):List.take l.length (l.set j x)=l.set j x:=by rw[List.take_of_length_le (by rw[List.length_set];exact Nat.le_refl _)]
theorem Zo9{F:Nat}(hF:400≤F){s:Qq}(h:Zi s)(k:ByteArray){b:Q1}(hx:0≤aI s b.2.1):Qr1 F ((b.1,k,b.2),s)=some (W3 s b):=by
 have h1:=h.a;obtain⟨j,j1,j2⟩:=Qfg hx;have hd:Zu=dA:=rfl;have hA:s.2.1.getD j dA=Xc s b.2.1:=by unfold Xc;rw[j1];rfl
 unfold Qr1 W3;simp only[Q3,Zii (F:=F) (l:=s.2.1) (by omega),tk,V0 hF h,hd,j1,Nat.zero_add,Nat.le_refl,decide_true,Bool.and_self,Zh,Option.bind_some];have hlen:(s.2.1.set j ((Xc s b.2.1).1,b.2.2.1,(Xc s b.2.1).2.2.1,(Xc s b.2.1).2.2.2)).length=s.2.1.length:=List.length_set;simp(disch:=omega)only[Zd,Int.toNat_natCast,hA,hlen,Nat.le_refl,decide_true,Bool.and_self,Bool.true_and,Bool.and_true,Zh,List.drop_zero,Qh0]
theorem Ydb{F:Nat}(hF:400≤F){s:Qq}(h:Zi s){b:Q1}(hx:0≤aI s b.2.1):Qgv F (s,b)=some (W3 s b):=by
 have h1:=h.a;obtain⟨j,j1,j2⟩:=Qfg hx;have hd:Zu=dA:=rfl;have hA:s.2.1.getD j dA=Xc s b.2.1:=by unfold Xc;rw[j1];rfl
 have n:∀l:List Ath,Qa Ath++l=l:=fun _=>rfl;unfold Qgv W3;have hlen:(s.2.1.set j ((Xc s b.2.1).1,b.2.2.1,(Xc s b.2.1).2.2.1,(Xc s b.2.1).2.2.2)).length=s.2.1.length:=List.length_set;simp(disch:=omega)only[Q3,n,tk,l40 hF h,hd,j1,Zd,Int.toNat_natCast,hA,hlen,Nat.zero_add,Nat.le_refl,decide_true,Bool.and_self,Bool.true_and,Bool.and_true,Zh,Option.bind_some,List.drop_zero,List.take_length,Qh0]
theorem Qop{s:Qq}{a c:ByteArray}(h:0≤eI s a c):∃k:Nat,eI s a c=k∧k<s.2.2.2.1.length:=by obtain⟨k,y,h1,h2,h3,h4⟩:=Km (p:=eP a c) (l:=s.2.2.2.1) h;exact⟨k,h1,h2⟩
theorem Yhr{F:Nat}(hF:400≤F){s:Qq}(h:Zi s)(k:ByteArray){b:Q1}(hx:0≤eI s b.2.1 b.2.2.2.2.1):Qpg F ((b.1,k,b.2),s)=some (Vh s b):=by
 have h1:=h.e;obtain⟨j,j1,j2⟩:=Qop hx;have hA:s.2.2.2.1.getD j dE=Qao s b.2.1 b.2.2.2.2.1:=by unfold Qao;rw[j1];rfl
 unfold Qpg Vh Qxk;simp only[Q3,Qtl (F:=F) (l:=s.2.2.2.1) (by omega),tk,Qio hF h,tE,j1,Nat.zero_add,Nat.le_refl,decide_true,Bool.and_self,Zh,Option.bind_some];generalize hy:(Qao s b.2.1 b.2.2.2.2.1)=y at hA;have hlen:(s.2.2.2.1.set j (y.1,y.2.1,y.2.2.1,y.2.2.2.1,y.2.2.2.2.1,y.2.2.2.2.2.1,true)).length=s.2.2.2.1.length:=List.length_set;simp(disch:=omega)only[Zd,Int.toNat_natCast,hA,hlen,Nat.le_refl,decide_true,Bool.and_self,Bool.true_and,Bool.and_true,Zh,List.drop_zero,Qh0]
theorem Ybq{F:Nat}(hF:400≤F){s:Qq}(h:Zi s){b:Q1}(hx:0≤eI s b.2.1 b.2.2.2.2.1):Qiu F (s,b)=some (Vh s b):=by
 have h1:=h.e;obtain⟨j,j1,j2⟩:=Qop hx;have hA:s.2.2.2.1.getD j dE=Qao s b.2.1 b.2.2.2.2.1:=by unfold Qao;rw[j1];rfl
 have n:∀l:List Zt,Qa Zt++l=l:=fun _=>rfl;unfold Qiu Vh Qxk;generalize hy:(Qao s b.2.1 b.2.2.2.2.1)=y at hA;have hlen:(s.2.2.2.1.set j (y.1,y.2.1,y.2.2.1,y.2.2.2.1,y.2.2.2.2.1,y.2.2.2.2.2.1,true)).length=s.2.2.2.1.length:=List.length_set;simp(disch:=omega)only[Q3,n,tk,l53 hF h,tE,j1,Zd,Int.toNat_natCast,hA,hlen,Nat.zero_add,Nat.le_refl,decide_true,Bool.and_self,Bool.true_and,Bool.and_true,Zh,Option.bind_some,List.drop_zero,List.take_length,Qh0]
theorem Zc7{α:Type}{A X Y:List α}{n:Nat}(h:n≤A.length):List.take n (List.drop 0 (List.take n A++X++Y))=List.take n A:=by rw[List.drop_zero,List.append_assoc,List.take_append_of_le_length (by rw[List.length_take];omega),List.take_take,Nat.min_self]
theorem Yeh{α:Type}{L:List α}{j:Nat}(h:j<L.length):List.take (j+(L.length-(j+1))) (J2 L j (j+1) (L.length-(j+1)))=L.take j++L.drop (j+1):=by have e:(L.drop (j+1)).take (L.length-(j+1))=L.drop (j+1):=List.take_of_length_le (by rw[List.length_drop];omega);unfold J2;rw[e];exact List.take_left' (by simp;omega)
theorem Ygm{F:Nat}(hF:400≤F){s:Qq}(h:Zi s)(k:ByteArray){b:Q1}(hx:0≤eI s b.2.1 b.2.2.2.2.1):Qn9 F ((b.1,k,b.2),s)=some (W0 s b):=by
 have h1:=h.e;obtain⟨j,j1,j2⟩:=Qop hx;have hw:w64 ((j:Int)+1)=((j+1:Nat):Int):=by rw[Zv (by omega) (by omega)];rfl
 have hne:¬((j:Nat):Int)=((j+1:Nat):Int):=by omega
 unfold Qn9 W0;simp only[Q3,Qtl (F:=F) (l:=s.2.2.2.1) (by omega),tk,Qio hF h,tE,j1,hw,hne,Nat.zero_add,Nat.sub_zero,Int.toNat_natCast,Nat.le_refl,decide_true,decide_false,cond_false,Bool.and_self,Zh,Option.bind_some];generalize s.2.2.2.1=L at h1 j2;by_cases p1:L.length-(j+1)=0
 ·have hA:∀z:Zt,j≤(List.take j L++List.replicate (L.length-j) z++List.drop (j+(L.length-j)) L).length:=by intro z;simp;omega
  have hB:List.drop (j+1) L=[]:=List.drop_of_length_le (by omega);simp(disch:=omega)only[Zd,p1,hA,Zc7 (show j≤L.length by omega),hB,List.append_nil,Nat.le_refl,decide_true,cond_true,Bool.and_self,Bool.true_and,Bool.and_true,Zh,Option.bind_some]
 ·have hm1:(J2 L j (j+1) (L.length-(j+1))).length=L.length:=Qrh (by omega) (by omega);have hA:∀z:Zt,j+(L.length-(j+1))≤(List.take (j+(L.length-(j+1))) (J2 L j (j+1) (L.length-(j+1)))++List.replicate (L.length-(j+(L.length-(j+1)))) z++List.drop (j+(L.length-(j+1))+(L.length-(j+(L.length-(j+1))))) (J2 L j (j+1) (L.length-(j+1)))).length:=by intro z;simp[hm1];omega
  simp(disch:=omega)only[Zd,p1,hA,hm1,Zc7 (A:=J2 L j (j+1) (L.length-(j+1))) (show j+(L.length-(j+1))≤_ by rw[hm1];omega),Nat.le_refl,decide_true,decide_false,cond_false,Bool.and_self,Bool.true_and,Bool.and_true,Zh,Option.bind_some];rw[Yeh j2]
theorem Zmz{F:Nat}(hF:400≤F){s:Qq}(h:Zi s){b:Q1}(hx:0≤eI s b.2.1 b.2.2.2.2.1):Qi4 F (s,b)=some (W0 s b):=by
 have h1:=h.e;obtain⟨j,j1,j2⟩:=Qop hx;have hw:w64 ((j:Int)+1)=((j+1:Nat):Int):=by rw[Zv (by omega) (by omega)];rfl
 have n:∀l:List Zt,Qa Zt++l=l:=fun _=>rfl;unfold Qi4 W0;simp only[Q3,n,tk,l53 hF h,tE,j1,hw,Nat.zero_add,Nat.sub_zero,Int.toNat_natCast,Nat.le_refl,decide_true,decide_false,cond_false,Bool.and_self,Zh,Option.bind_some];have hl1:(s.2.2.2.1.take j).length≤300:=by simp;omega
 have hl2:(s.2.2.2.1.take j++s.2.2.2.1.drop (j+1)).length≤300:=by simp;omega
 simp(disch:=omega)only[List.drop_zero,List.take_length,Zd]
theorem Zic{s:Qq}{a c:ByteArray}(h:0≤tI s a c):∃k:Nat,tI s a c=k∧k<s.2.2.2.2.length:=by obtain⟨k,y,h1,h2,h3,h4⟩:=Km (p:=tP a c) (l:=s.2.2.2.2) h;exact⟨k,h1,h2⟩
theorem Qpf(y:Qq):Yd.eqv (Qu.one 0 31 Zm::Qa Qu) y y=true:=Yd.eqv_rf (Qu.one 0 31 Zm::Qa Qu) y
theorem Ybc{F:Nat}(hF:400≤F){s:Qq}(h:Zi s)(k:ByteArray){b:Q1}(hb:b.2.2.2.2.2.2.2.2.2.2.length≤10):Qpn F ((b.1,k,b.2),s)=some (Wl s b):=by
 have h1:=h.t;have hl:(s.2.2.2.2++[(b.2.2.1,b.2.2.2.2.1,b.2.2.2.2.2.2.2.2.2.2)]).length≤301:=by simp;omega
 have e:∀y:Tm,y::Qa Tm=[y]:=fun _=>rfl;unfold Qpn Qv9 Wl tw;simp(disch:=omega)only[Q3,e,Zcx (F:=F) (l:=s.2.2.2.2) (by omega),Zdr (F:=F) (l:=b.2.2.2.2.2.2.2.2.2.2) (by omega),Zez hF h,tk,Zd,Nat.zero_add,Nat.le_refl,decide_true,Bool.and_self,Zh,Option.bind_some,Qkg];by_cases p1:tI s b.2.2.1 b.2.2.2.2.1<0
 ·simp only[p1,decide_true,cond_true,if_true,Option.bind_some,Qcg,Qpf,Zh]
 ·obtain⟨j,j1,j2⟩:=Zic (s:=s) (a:=b.2.2.1) (c:=b.2.2.2.2.1) (by omega);have hlen:(s.2.2.2.2.set j (b.2.2.1,b.2.2.2.2.1,b.2.2.2.2.2.2.2.2.2.2)).length=s.2.2.2.2.length:=List.length_set;simp(disch:=omega)only[j1,p1,show¬((j:Nat):Int)<0 by omega,decide_false,cond_false,if_false,Zd,Int.toNat_natCast,hlen,Nat.le_refl,decide_true,Bool.and_self,Bool.true_and,Bool.and_true,Zh,Option.bind_some,List.drop_zero,Qh0,Qcg,Qpf]
theorem Ylu{F:Nat}(hF:400≤F){s:Qq}(h:Zi s){b:Q1}(hb:b.2.2.2.2.2.2.2.2.2.2.length≤10):Qh3 F (s,b)=some (Wl s b):=by
 have h1:=h.t;have hl:(s.2.2.2.2++[(b.2.2.1,b.2.2.2.2.1,b.2.2.2.2.2.2.2.2.2.2)]).length≤301:=by simp;omega
 have e:∀y:Tm,y::Qa Tm=[y]:=fun _=>rfl;have n:∀l:List Tm,Qa Tm++l=l:=fun _=>rfl;have n2:∀l:List ByteArray,Qa ByteArray++l=l:=fun _=>rfl;unfold Qh3 Wl tw;simp(disch:=omega)only[Q3,e,n,n2,Za9 hF h,tk,Zd,Nat.zero_add,Nat.le_refl,decide_true,Bool.and_self,Zh,Option.bind_some];by_cases p1:tI s b.2.2.1 b.2.2.2.2.1<0
 ·simp only[p1,decide_true,cond_true,if_true,Option.bind_some,Qcg,Qpf,Zh]
 ·obtain⟨j,j1,j2⟩:=Zic (s:=s) (a:=b.2.2.1) (c:=b.2.2.2.2.1) (by omega);have hlen:(s.2.2.2.2.set j (b.2.2.1,b.2.2.2.2.1,b.2.2.2.2.2.2.2.2.2.2)).length=s.2.2.2.2.length:=List.length_set;simp(disch:=omega)only[j1,p1,show¬((j:Nat):Int)<0 by omega,decide_false,cond_false,if_false,Zd,Int.toNat_natCast,hlen,Nat.le_refl,decide_true,Bool.and_self,Bool.true_and,Bool.and_true,Zh,Option.bind_some,List.drop_zero,Qh0,Qcg,Qpf]
abbrev atM:Qd:=.agg [.int .i64,.int .i64,.int .i64,.int .i64,.seq [.str,.str,.str,.int .i64,.int .i64,.int .i64,.int .i64,.str,.int .i64,.str,.int .i64]]
abbrev atS:Qd:=.agg [.seq Z2,.seq [.str,.str,.int .i64,.str],.seq [.str,.int .i64,.int .i64],.seq [.str,.str,.str,.int .i64,.str,.int .i64,.bool],.seq [.str,.str,.seq Z2]]
theorem okM{m:Mt}(h:Qd.ok atM m):m.2.2.2.2.length*128≤140737488355328:=by obtain⟨-,-,-,-,h,-⟩:=h;have h:m.2.2.2.2.length*128≤140737488351232:=h;omega
theorem okS{s:Qq}(h:Qd.ok atS s):ByS s:=by obtain⟨⟨h1,-⟩,⟨h2,-⟩,⟨h3,-⟩,⟨h4,-⟩,⟨h5,h6⟩⟩:=h;have h1:s.1.length*16≤140737488351232:=h1;have h2:s.2.1.length*56≤140737488351232:=h2;have h3:s.2.2.1.length*32≤140737488351232:=h3;have h4:s.2.2.2.1.length*88≤140737488351232:=h4;have h5:s.2.2.2.2.length*56≤140737488351232:=h5;refine⟨by omega,by omega,by omega,by omega,by omega,fun x hx=>?_⟩;have h7:x.2.2.length*16≤140737488351232:=(h6 x hx).2.2.1;omega
def Qgs:List Tm→Nat
 |[]=>0
 |x::l=>x.2.2.length+1+Qgs l
theorem Zek:∀(l:List Tm),l.length≤Qgs l∧∀x∈l,x.2.2.length≤Qgs l
 |[]=>⟨Nat.le_refl _,fun x hx=>(by cases hx)⟩
 |y::l=>by
  obtain⟨h1,h2⟩:=Zek l;refine⟨by simp only[Qgs,List.length_cons];omega,fun x hx=>?_⟩;simp only[Qgs];rcases List.mem_cons.1 hx with rfl|hx
  ·omega
  ·have:=h2 x hx;omega
def Qg9(m:Mt)(s:Qq):Nat:=m.2.2.2.2.length+s.1.length+s.2.1.length+s.2.2.1.length+s.2.2.2.1.length+s.2.2.2.2.length+Qgs s.2.2.2.2+100000
theorem Ynj(m:Mt)(s:Qq):100000≤Qg9 m s∧m.2.2.2.2.length<Qg9 m s∧Qs2 (Qg9 m s) s:=by obtain⟨h1,h2⟩:=Zek s.2.2.2.2;unfold Qg9;refine⟨by omega,by omega,by omega,by omega,by omega,by omega,by omega,fun x hx=>?_⟩;have:=h2 x hx;omega
theorem MtS.bd{m:Mt}(h:MtS m):∀x∈m.2.2.2.2,x.1.size≤300∧x.2.2.1.size≤300:=fun x hx=>by have:=h.c x hx;unfold CsS at this;omega
theorem MtS.len{m:Mt}(h:MtS m):m.2.2.2.2.length≤300:=by have:=h.n;omega
theorem Yno(b:Bool):Qm.eqv (Qd.val Ty.bool::Qa Qd) b b=true:=Qm.eqv_rf (Qd.val Ty.bool::Qa Qd) b
end Go.Proofs.Tryz
