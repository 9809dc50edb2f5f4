/- Plain law: Next by kinds. Plain law: room for a meeting and a state. And further parts. -/
import Derived.Test.YtpkbmngnolhopaaGreatDoorXTeD62
import Derived.Test.YtpkbmngnolhopaaGreatDoorXT3f
import Derived.Test.YtpkbmngnolhopaaGreatDoorXT3n
set_option maxRecDepth 100000
set_option linter.unusedVariables false
set_option linter.unusedSimpArgs false
namespace Go.Proofs.Tryz
open Go Go.Sx
theorem Zw3{F:Nat}{l:List ByteArray}(h:l.length≤1000):Qjf F l=some l:=by
 have h1:l.length*16≤140737488355328:=by omega
 have h2:l.length≤9223372036854775807:=by omega
 unfold Qjf;simp only[Qkv,h1,h2,decide_true,Za,Option.bind_some];by_cases h0:l.length=0
 ·obtain rfl:=List.eq_nil_of_length_eq_zero h0;rfl
 ·simp only[h0,decide_false,cond_false]
theorem Zaw{F:Nat}{l:List Ath}(h:l.length≤1000):Qgh F l=some l:=by
 have h1:l.length*56≤140737488355328:=by omega
 have h2:l.length≤9223372036854775807:=by omega
 unfold Qgh;simp only[Qkv,h1,h2,decide_true,Za,Option.bind_some];by_cases h0:l.length=0
 ·obtain rfl:=List.eq_nil_of_length_eq_zero h0;rfl
 ·simp only[h0,decide_false,cond_false]
theorem Zqx{F:Nat}{l:List Lic}(h:l.length≤1000):Qir F l=some l:=by
 have h1:l.length*32≤140737488355328:=by omega
 have h2:l.length≤9223372036854775807:=by omega
 unfold Qir;simp only[Qkv,h1,h2,decide_true,Za,Option.bind_some];by_cases h0:l.length=0
 ·obtain rfl:=List.eq_nil_of_length_eq_zero h0;rfl
 ·simp only[h0,decide_false,cond_false]
theorem Qtw{F:Nat}{l:List Zr}(h:l.length≤1000):Qeq F l=some l:=by
 have h1:l.length*88≤140737488355328:=by omega
 have h2:l.length≤9223372036854775807:=by omega
 unfold Qeq;simp only[Qkv,h1,h2,decide_true,Za,Option.bind_some];by_cases h0:l.length=0
 ·obtain rfl:=List.eq_nil_of_length_eq_zero h0;rfl
 ·simp only[h0,decide_false,cond_false]
def Qd1(s:Qo)(b:Qz):Qo:=(s.1++[b.2.2.1],s.2)
def Qcw(s:Qo)(b:Qz):Qo:=(s.1,s.2.1++[(b.2.1,b.2.2.1,b.2.2.2.2.2.1,b.2.2.2.1)],s.2.2)
def Qda(s:Qo)(b:Qz):Qo:=(s.1,s.2.1,s.2.2.1++[(b.2.1,b.2.2.2.2.2.1,b.2.2.2.2.2.2.1)],s.2.2.2)
def Qd7(s:Qo)(b:Qz):Qo:=(s.1,s.2.1.set (aI s b.2.1).toNat ((Yv s b.2.1).1,b.2.2.1,(Yv s b.2.1).2.2.1,(Yv s b.2.1).2.2.2),s.2.2)
def Qen(s:Qo)(b:Qz):Qo:=(s.1,s.2.1,s.2.2.1,s.2.2.2.1++[(b.2.1,b.2.2.2.2.1,b.2.2.2.2.2.2.2.1,b.2.2.2.2.2.2.2.2.1,b.2.2.2.2.2.2.2.2.2.1,b.1,false)],s.2.2.2.2)
def Qdf(s:Qo)(b:Qz):Qo:=(s.1,s.2.1,s.2.2.1,s.2.2.2.1.take (eI s b.2.1 b.2.2.2.2.1).toNat++s.2.2.2.1.drop ((eI s b.2.1 b.2.2.2.2.1).toNat+1),s.2.2.2.2)
def Qrf(e:Zr):Zr:=(e.1,e.2.1,e.2.2.1,e.2.2.2.1,e.2.2.2.2.1,e.2.2.2.2.2.1,true)
def Qdb(s:Qo)(b:Qz):Qo:=(s.1,s.2.1,s.2.2.1,s.2.2.2.1.set (eI s b.2.1 b.2.2.2.2.1).toNat (Qrf (Uy s b.2.1 b.2.2.2.2.1)),s.2.2.2.2)
def Qdw(s:Qo)(b:Qz):Qo:=(s.1,s.2.1,s.2.2.1,s.2.2.2.1,if tI s b.2.2.1 b.2.2.2.2.1<0 then s.2.2.2.2++[(b.2.2.1,b.2.2.2.2.1,b.2.2.2.2.2.2.2.2.2.2)]else s.2.2.2.2.set (tI s b.2.2.1 b.2.2.2.2.1).toNat (b.2.2.1,b.2.2.2.2.1,b.2.2.2.2.2.2.2.2.2.2))
theorem tk{α:Type}(l:List α):List.take l.length (List.drop 0 l)=l:=by rw[List.drop_zero,List.take_length]
theorem Qlv(y:List Ath):Qt.eqv (Qf.val (Ty.seq kt3)::Qa Qf) y y=true:=Qt.eqv_rf (Qf.val (Ty.seq kt3)::Qa Qf) y
theorem Qmn(y:List Lic):Qt.eqv (Qf.val (Ty.seq kt2)::Qa Qf) y y=true:=Qt.eqv_rf (Qf.val (Ty.seq kt2)::Qa Qf) y
theorem Qm6(y:List Zr):Qt.eqv (Qf.val (Ty.seq Zp)::Qa Qf) y y=true:=Qt.eqv_rf (Qf.val (Ty.seq Zp)::Qa Qf) y
theorem Qkz(y:List Tm):Qt.eqv (Qf.val (Ty.seq kt9)::Qa Qf) y y=true:=Qt.eqv_rf (Qf.val (Ty.seq kt9)::Qa Qf) y
theorem Yii{F:Nat}{s:Qo}(h:Zn s)(k:ByteArray)(b:Qz):Qgs F ((b.1,k,b.2),s)=some (Qd1 s b):=by
 have h1:=h.c;have hl:(s.1++[b.2.2.1]).length≤301:=by simp;omega
 have e:∀y:ByteArray,y::Qa ByteArray=[y]:=fun _=>rfl;have n:∀l:List ByteArray,Qa ByteArray++l=l:=fun _=>rfl;unfold Qgs Qrm Qd1;simp(disch:=omega)only[Zh,Zw3 (F:=F) (l:=s.1) (by omega),e,Zc,tk,Nat.zero_add,Nat.le_refl,decide_true,Bool.and_self,Za,Option.bind_some,Qlv,Qmn,Qm6,Qkz]
theorem Yf3{F:Nat}{s:Qo}(h:Zn s)(b:Qz):Qey F (s,b)=some (Qd1 s b):=by
 have h1:=h.c;have hl:(s.1++[b.2.2.1]).length≤301:=by simp;omega
 have e:∀y:ByteArray,y::Qa ByteArray=[y]:=fun _=>rfl;have n:∀l:List ByteArray,Qa ByteArray++l=l:=fun _=>rfl;unfold Qey Qd1 tw;simp(disch:=omega)only[Zh,n,e,Zc,tk,Nat.zero_add,Nat.le_refl,decide_true,Bool.and_self,Bool.true_and,Bool.and_true,Za,Option.bind_some,Qce]
theorem Yat{F:Nat}{s:Qo}(h:Zn s)(k:ByteArray)(b:Qz):Qfn F ((b.1,k,b.2),s)=some (Qcw s b):=by
 have h1:=h.a;have hl:(s.2.1++[(b.2.1,b.2.2.1,b.2.2.2.2.2.1,b.2.2.2.1)]).length≤301:=by simp;omega
 have e:∀y:Ath,y::Qa Ath=[y]:=fun _=>rfl;have n:∀l:List Ath,Qa Ath++l=l:=fun _=>rfl;unfold Qfn Qv5 Qcw tw;simp(disch:=omega)only[Zh,Zaw (F:=F) (l:=s.2.1) (by omega),e,Zc,tk,Nat.zero_add,Nat.le_refl,decide_true,Bool.and_self,Za,Option.bind_some,Qlv,Qmn,Qm6,Qkz]
theorem Zjv{F:Nat}{s:Qo}(h:Zn s)(b:Qz):Qf3 F (s,b)=some (Qcw s b):=by
 have h1:=h.a;have hl:(s.2.1++[(b.2.1,b.2.2.1,b.2.2.2.2.2.1,b.2.2.2.1)]).length≤301:=by simp;omega
 have e:∀y:Ath,y::Qa Ath=[y]:=fun _=>rfl;have n:∀l:List Ath,Qa Ath++l=l:=fun _=>rfl;unfold Qf3 Qcw tw;simp(disch:=omega)only[Zh,n,e,Zc,tk,Nat.zero_add,Nat.le_refl,decide_true,Bool.and_self,Bool.true_and,Bool.and_true,Za,Option.bind_some,Qce]
theorem Yfk{F:Nat}{s:Qo}(h:Zn s)(k:ByteArray)(b:Qz):Qgu F ((b.1,k,b.2),s)=some (Qda s b):=by
 have h1:=h.l;have hl:(s.2.2.1++[(b.2.1,b.2.2.2.2.2.1,b.2.2.2.2.2.2.1)]).length≤301:=by simp;omega
 have e:∀y:Lic,y::Qa Lic=[y]:=fun _=>rfl;have n:∀l:List Lic,Qa Lic++l=l:=fun _=>rfl;unfold Qgu Qq0 Qda tw;simp(disch:=omega)only[Zh,Zqx (F:=F) (l:=s.2.2.1) (by omega),e,Zc,tk,Nat.zero_add,Nat.le_refl,decide_true,Bool.and_self,Za,Option.bind_some,Qlv,Qmn,Qm6,Qkz]
theorem Zwg{F:Nat}{s:Qo}(h:Zn s)(b:Qz):Qfz F (s,b)=some (Qda s b):=by
 have h1:=h.l;have hl:(s.2.2.1++[(b.2.1,b.2.2.2.2.2.1,b.2.2.2.2.2.2.1)]).length≤301:=by simp;omega
 have e:∀y:Lic,y::Qa Lic=[y]:=fun _=>rfl;have n:∀l:List Lic,Qa Lic++l=l:=fun _=>rfl;unfold Qfz Qda tw;simp(disch:=omega)only[Zh,n,e,Zc,tk,Nat.zero_add,Nat.le_refl,decide_true,Bool.and_self,Bool.true_and,Bool.and_true,Za,Option.bind_some,Qce]
theorem Zqb{F:Nat}{s:Qo}(h:Zn s)(k:ByteArray)(b:Qz):Qfr F ((b.1,k,b.2),s)=some (Qen s b):=by
 have h1:=h.e;have hl:(s.2.2.2.1++[(b.2.1,b.2.2.2.2.1,b.2.2.2.2.2.2.2.1,b.2.2.2.2.2.2.2.2.1,b.2.2.2.2.2.2.2.2.2.1,b.1,false)]).length≤301:=by simp;omega
 have e:∀y:Zr,y::Qa Zr=[y]:=fun _=>rfl;have n:∀l:List Zr,Qa Zr++l=l:=fun _=>rfl;unfold Qfr Qsp Qen tw;simp(disch:=omega)only[Zh,Qtw (F:=F) (l:=s.2.2.2.1) (by omega),e,Zc,tk,Nat.zero_add,Nat.le_refl,decide_true,Bool.and_self,Za,Option.bind_some,Qlv,Qmn,Qm6,Qkz]
theorem Zrh{F:Nat}{s:Qo}(h:Zn s)(b:Qz):Qfx F (s,b)=some (Qen s b):=by
 have h1:=h.e;have hl:(s.2.2.2.1++[(b.2.1,b.2.2.2.2.1,b.2.2.2.2.2.2.2.1,b.2.2.2.2.2.2.2.2.1,b.2.2.2.2.2.2.2.2.2.1,b.1,false)]).length≤301:=by simp;omega
 have e:∀y:Zr,y::Qa Zr=[y]:=fun _=>rfl;have n:∀l:List Zr,Qa Zr++l=l:=fun _=>rfl;unfold Qfx Qen tw;simp(disch:=omega)only[Zh,n,e,Zc,tk,Nat.zero_add,Nat.le_refl,decide_true,Bool.and_self,Bool.true_and,Bool.and_true,Za,Option.bind_some,Qce]
theorem Qgk{α:Type}(l:List α)(j:Nat)(x:α):List.take l.length (l.set j x)=l.set j x:=by rw[List.take_of_length_le (by rw[List.length_set];exact Nat.le_refl _)]
theorem Ylu{F:Nat}(hF:400≤F){s:Qo}(h:Zn s)(k:ByteArray){b:Qz}(hx:0≤aI s b.2.1):Qhj F ((b.1,k,b.2),s)=some (Qd7 s b):=by
 have h1:=h.a;obtain⟨j,j1,j2⟩:=Qeo hx;have hd:Zx=dA:=rfl;have hA:s.2.1.getD j dA=Yv s b.2.1:=by unfold Yv;rw[j1];rfl
 unfold Qhj Qd7;simp only[Zh,Zaw (F:=F) (l:=s.2.1) (by omega),tk,Qbm hF h,hd,j1,Nat.zero_add,Nat.le_refl,decide_true,Bool.and_self,Za,Option.bind_some];have hlen:(s.2.1.set j ((Yv s b.2.1).1,b.2.2.1,(Yv s b.2.1).2.2.1,(Yv s b.2.1).2.2.2)).length=s.2.1.length:=List.length_set;simp(disch:=omega)only[Zc,Int.toNat_natCast,hA,hlen,Nat.le_refl,decide_true,Bool.and_self,Bool.true_and,Bool.and_true,Za,List.drop_zero,Qgk]
theorem Zjx{F:Nat}(hF:400≤F){s:Qo}(h:Zn s){b:Qz}(hx:0≤aI s b.2.1):Qfy F (s,b)=some (Qd7 s b):=by
 have h1:=h.a;obtain⟨j,j1,j2⟩:=Qeo hx;have hd:Zx=dA:=rfl;have hA:s.2.1.getD j dA=Yv s b.2.1:=by unfold Yv;rw[j1];rfl
 have n:∀l:List Ath,Qa Ath++l=l:=fun _=>rfl;unfold Qfy Qd7;have hlen:(s.2.1.set j ((Yv s b.2.1).1,b.2.2.1,(Yv s b.2.1).2.2.1,(Yv s b.2.1).2.2.2)).length=s.2.1.length:=List.length_set;simp(disch:=omega)only[Zh,n,tk,l40 hF h,hd,j1,Zc,Int.toNat_natCast,hA,hlen,Nat.zero_add,Nat.le_refl,decide_true,Bool.and_self,Bool.true_and,Bool.and_true,Za,Option.bind_some,List.drop_zero,List.take_length,Qgk]
theorem Qol{s:Qo}{a c:ByteArray}(h:0≤eI s a c):∃k:Nat,eI s a c=k∧k<s.2.2.2.1.length:=by obtain⟨k,y,h1,h2,h3,h4⟩:=Ul (p:=eP a c) (l:=s.2.2.2.1) h;exact⟨k,h1,h2⟩
theorem Zz1{F:Nat}(hF:400≤F){s:Qo}(h:Zn s)(k:ByteArray){b:Qz}(hx:0≤eI s b.2.1 b.2.2.2.2.1):Qeu F ((b.1,k,b.2),s)=some (Qdb s b):=by
 have h1:=h.e;obtain⟨j,j1,j2⟩:=Qol hx;have hA:s.2.2.2.1.getD j dE=Uy s b.2.1 b.2.2.2.2.1:=by unfold Uy;rw[j1];rfl
 unfold Qeu Qdb Qrf;simp only[Zh,Qtw (F:=F) (l:=s.2.2.2.1) (by omega),tk,Qj3 hF h,tE,j1,Nat.zero_add,Nat.le_refl,decide_true,Bool.and_self,Za,Option.bind_some];generalize hy:(Uy s b.2.1 b.2.2.2.2.1)=y at hA;have hlen:(s.2.2.2.1.set j (y.1,y.2.1,y.2.2.1,y.2.2.2.1,y.2.2.2.2.1,y.2.2.2.2.2.1,true)).length=s.2.2.2.1.length:=List.length_set;simp(disch:=omega)only[Zc,Int.toNat_natCast,hA,hlen,Nat.le_refl,decide_true,Bool.and_self,Bool.true_and,Bool.and_true,Za,List.drop_zero,Qgk]
theorem Zyn{F:Nat}(hF:400≤F){s:Qo}(h:Zn s){b:Qz}(hx:0≤eI s b.2.1 b.2.2.2.2.1):Qf2 F (s,b)=some (Qdb s b):=by
 have h1:=h.e;obtain⟨j,j1,j2⟩:=Qol hx;have hA:s.2.2.2.1.getD j dE=Uy s b.2.1 b.2.2.2.2.1:=by unfold Uy;rw[j1];rfl
 have n:∀l:List Zr,Qa Zr++l=l:=fun _=>rfl;unfold Qf2 Qdb Qrf;generalize hy:(Uy s b.2.1 b.2.2.2.2.1)=y at hA;have hlen:(s.2.2.2.1.set j (y.1,y.2.1,y.2.2.1,y.2.2.2.1,y.2.2.2.2.1,y.2.2.2.2.2.1,true)).length=s.2.2.2.1.length:=List.length_set;simp(disch:=omega)only[Zh,n,tk,l53 hF h,tE,j1,Zc,Int.toNat_natCast,hA,hlen,Nat.zero_add,Nat.le_refl,decide_true,Bool.and_self,Bool.true_and,Bool.and_true,Za,Option.bind_some,List.drop_zero,List.take_length,Qgk]
theorem Qw0{α:Type}{A X Y:List α}{n:Nat}(h:n≤A.length):List.take n (List.drop 0 (List.take n A++X++Y))=List.take n A:=by rw[List.drop_zero,List.append_assoc,List.take_append_of_le_length (by rw[List.length_take];omega),List.take_take,Nat.min_self]
theorem Ygx{α:Type}{L:List α}{j:Nat}(h:j<L.length):List.take (j+(L.length-(j+1))) (Jm L j (j+1) (L.length-(j+1)))=L.take j++L.drop (j+1):=by have e:(L.drop (j+1)).take (L.length-(j+1))=L.drop (j+1):=List.take_of_length_le (by rw[List.length_drop];omega);unfold Jm;rw[e];exact List.take_left' (by simp;omega)
theorem Ydj{F:Nat}(hF:400≤F){s:Qo}(h:Zn s)(k:ByteArray){b:Qz}(hx:0≤eI s b.2.1 b.2.2.2.2.1):Qgz F ((b.1,k,b.2),s)=some (Qdf s b):=by
 have h1:=h.e;obtain⟨j,j1,j2⟩:=Qol hx;have hw:w64 ((j:Int)+1)=((j+1:Nat):Int):=by rw[Z0 (by omega) (by omega)];rfl
 have hne:¬((j:Nat):Int)=((j+1:Nat):Int):=by omega
 unfold Qgz Qdf;simp only[Zh,Qtw (F:=F) (l:=s.2.2.2.1) (by omega),tk,Qj3 hF h,tE,j1,hw,hne,Nat.zero_add,Nat.sub_zero,Int.toNat_natCast,Nat.le_refl,decide_true,decide_false,cond_false,Bool.and_self,Za,Option.bind_some];generalize s.2.2.2.1=L at h1 j2;by_cases p1:L.length-(j+1)=0
 ·have hA:∀z:Zr,j≤(List.take j L++List.replicate (L.length-j) z++List.drop (j+(L.length-j)) L).length:=by intro z;simp;omega
  have hB:List.drop (j+1) L=[]:=List.drop_of_length_le (by omega);simp(disch:=omega)only[Zc,p1,hA,Qw0 (show j≤L.length by omega),hB,List.append_nil,Nat.le_refl,decide_true,cond_true,Bool.and_self,Bool.true_and,Bool.and_true,Za,Option.bind_some]
 ·have hm1:(Jm L j (j+1) (L.length-(j+1))).length=L.length:=Qpa (by omega) (by omega);have hA:∀z:Zr,j+(L.length-(j+1))≤(List.take (j+(L.length-(j+1))) (Jm L j (j+1) (L.length-(j+1)))++List.replicate (L.length-(j+(L.length-(j+1)))) z++List.drop (j+(L.length-(j+1))+(L.length-(j+(L.length-(j+1))))) (Jm L j (j+1) (L.length-(j+1)))).length:=by intro z;simp[hm1];omega
  simp(disch:=omega)only[Zc,p1,hA,hm1,Qw0 (A:=Jm L j (j+1) (L.length-(j+1))) (show j+(L.length-(j+1))≤_ by rw[hm1];omega),Nat.le_refl,decide_true,decide_false,cond_false,Bool.and_self,Bool.true_and,Bool.and_true,Za,Option.bind_some];rw[Ygx j2]
theorem Zl2{F:Nat}(hF:400≤F){s:Qo}(h:Zn s){b:Qz}(hx:0≤eI s b.2.1 b.2.2.2.2.1):Qgv F (s,b)=some (Qdf s b):=by
 have h1:=h.e;obtain⟨j,j1,j2⟩:=Qol hx;have hw:w64 ((j:Int)+1)=((j+1:Nat):Int):=by rw[Z0 (by omega) (by omega)];rfl
 have n:∀l:List Zr,Qa Zr++l=l:=fun _=>rfl;unfold Qgv Qdf;simp only[Zh,n,tk,l53 hF h,tE,j1,hw,Nat.zero_add,Nat.sub_zero,Int.toNat_natCast,Nat.le_refl,decide_true,decide_false,cond_false,Bool.and_self,Za,Option.bind_some];have hl1:(s.2.2.2.1.take j).length≤300:=by simp;omega
 have hl2:(s.2.2.2.1.take j++s.2.2.2.1.drop (j+1)).length≤300:=by simp;omega
 simp(disch:=omega)only[List.drop_zero,List.take_length,Zc]
theorem Zed{s:Qo}{a c:ByteArray}(h:0≤tI s a c):∃k:Nat,tI s a c=k∧k<s.2.2.2.2.length:=by obtain⟨k,y,h1,h2,h3,h4⟩:=Ul (p:=tP a c) (l:=s.2.2.2.2) h;exact⟨k,h1,h2⟩
theorem Qm2(y:Qo):Ya.eqv (Qq.one 0 31 Zg::Qa Qq) y y=true:=Ya.eqv_rf (Qq.one 0 31 Zg::Qa Qq) y
theorem Yen{F:Nat}(hF:400≤F){s:Qo}(h:Zn s)(k:ByteArray){b:Qz}(hb:b.2.2.2.2.2.2.2.2.2.2.length≤10):Qff F ((b.1,k,b.2),s)=some (Qdw s b):=by
 have h1:=h.t;have hl:(s.2.2.2.2++[(b.2.2.1,b.2.2.2.2.1,b.2.2.2.2.2.2.2.2.2.2)]).length≤301:=by simp;omega
 have e:∀y:Tm,y::Qa Tm=[y]:=fun _=>rfl;unfold Qff Qtm Qdw tw;simp(disch:=omega)only[Zh,e,Yhd (F:=F) (l:=s.2.2.2.2) (by omega),Yew (F:=F) (l:=b.2.2.2.2.2.2.2.2.2.2) (by omega),Zyq hF h,tk,Zc,Nat.zero_add,Nat.le_refl,decide_true,Bool.and_self,Za,Option.bind_some,Qkz];by_cases p1:tI s b.2.2.1 b.2.2.2.2.1<0
 ·simp only[p1,decide_true,cond_true,if_true,Option.bind_some,Qce,Qm2,Za]
 ·obtain⟨j,j1,j2⟩:=Zed (s:=s) (a:=b.2.2.1) (c:=b.2.2.2.2.1) (by omega);have hlen:(s.2.2.2.2.set j (b.2.2.1,b.2.2.2.2.1,b.2.2.2.2.2.2.2.2.2.2)).length=s.2.2.2.2.length:=List.length_set;simp(disch:=omega)only[j1,p1,show¬((j:Nat):Int)<0 by omega,decide_false,cond_false,if_false,Zc,Int.toNat_natCast,hlen,Nat.le_refl,decide_true,Bool.and_self,Bool.true_and,Bool.and_true,Za,Option.bind_some,List.drop_zero,Qgk,Qce,Qm2]
theorem Yjj{F:Nat}(hF:400≤F){s:Qo}(h:Zn s){b:Qz}(hb:b.2.2.2.2.2.2.2.2.2.2.length≤10):Qe1 F (s,b)=some (Qdw s b):=by
 have h1:=h.t;have hl:(s.2.2.2.2++[(b.2.2.1,b.2.2.2.2.1,b.2.2.2.2.2.2.2.2.2.2)]).length≤301:=by simp;omega
 have e:∀y:Tm,y::Qa Tm=[y]:=fun _=>rfl;have n:∀l:List Tm,Qa Tm++l=l:=fun _=>rfl;have n2:∀l:List ByteArray,Qa ByteArray++l=l:=fun _=>rfl;unfold Qe1 Qdw tw;simp(disch:=omega)only[Zh,e,n,n2,Zku hF h,tk,Zc,Nat.zero_add,Nat.le_refl,decide_true,Bool.and_self,Za,Option.bind_some];by_cases p1:tI s b.2.2.1 b.2.2.2.2.1<0
 ·simp only[p1,decide_true,cond_true,if_true,Option.bind_some,Qce,Qm2,Za]
 ·obtain⟨j,j1,j2⟩:=Zed (s:=s) (a:=b.2.2.1) (c:=b.2.2.2.2.1) (by omega);have hlen:(s.2.2.2.2.set j (b.2.2.1,b.2.2.2.2.1,b.2.2.2.2.2.2.2.2.2.2)).length=s.2.2.2.2.length:=List.length_set;simp(disch:=omega)only[j1,p1,show¬((j:Nat):Int)<0 by omega,decide_false,cond_false,if_false,Zc,Int.toNat_natCast,hlen,Nat.le_refl,decide_true,Bool.and_self,Bool.true_and,Bool.and_true,Za,Option.bind_some,List.drop_zero,Qgk,Qce,Qm2]
abbrev atM:Qf:=.agg [.int .i64,.int .i64,.int .i64,.int .i64,.seq [.str,.str,.str,.int .i64,.int .i64,.int .i64,.int .i64,.str,.int .i64,.str,.int .i64]]
theorem okM{m:Mt}(h:Qf.ok atM m):m.2.2.2.2.length*128≤140737488355328:=by obtain⟨-,-,-,-,h,-⟩:=h;have h:m.2.2.2.2.length*128≤140737488351232:=h;omega
theorem MtS.bd{m:Mt}(h:MtS m):∀x∈m.2.2.2.2,x.1.size≤300∧x.2.2.1.size≤300:=fun x hx=>by have:=h.c x hx;unfold CsS at this;omega
theorem MtS.len{m:Mt}(h:MtS m):m.2.2.2.2.length≤300:=by have:=h.n;omega
theorem Yb1{b:Qz}(h:Xi (b.1,Yx,b.2)=0):X5 (Kw b):=by have h:Z2 true false false true false false true false false b=0:=h;exact Qaa h (Qgx b) (by simp)
structure Qjn (s:Qo):Prop where
 c:s.1.length≤256
 a:s.2.1.length≤256
 l:s.2.2.1.length≤256
 e:s.2.2.2.1.length≤256
 t:s.2.2.2.2.length≤256
def zS:Qo:=(Qa ByteArray,Qa Ath,Qa Lic,Qa Zr,Qa Tm)
theorem l19{F:Nat}(hF:400≤F)(a:Ys):∃b,c19 F a=some b∧(b=true→Zt (a.1,a.2.2)):=by
 obtain⟨d,k,at',c,g,ko,f,t,mk,mv,mr,ns⟩:=a;unfold c19;simp only[l79,Option.bind_some];by_cases h1:(60:Int)<k.size
 ·exact⟨false,by simp only[h1,decide_true,cond_true,Option.bind_some],fun h=>by cases h⟩
 ·by_cases h2:(60:Int)<at'.size
  ·exact⟨false,by simp only[h1,h2,decide_true,decide_false,cond_true,cond_false,Option.bind_some],fun h=>by cases h⟩
  ·by_cases h3:(60:Int)<c.size
   ·exact⟨false,by simp only[h1,h2,h3,decide_true,decide_false,cond_true,cond_false,Option.bind_some],fun h=>by cases h⟩
   ·by_cases h4:(60:Int)<g.size
    ·exact⟨false,by simp only[h1,h2,h3,h4,decide_true,decide_false,cond_true,cond_false,Option.bind_some],fun h=>by cases h⟩
    ·by_cases h5:(60:Int)<ko.size
     ·exact⟨false,by simp only[h1,h2,h3,h4,h5,decide_true,decide_false,cond_true,cond_false,Option.bind_some],fun h=>by cases h⟩
     ·by_cases h6:mk.size≤40∧mr.size≤40
      ·by_cases h7:(10:Int)<ns.length
       ·exact⟨false,by simp only[h1,h2,h3,h4,h5,h6,h7,and_self,decide_true,decide_false,Bool.not_true,cond_true,cond_false,Option.bind_some],fun h=>by cases h⟩
       ·simp only[h1,h2,h3,h4,h5,h6,h7,and_self,decide_true,decide_false,Bool.not_true,cond_true,cond_false,Option.bind_some];refine Qr9 ns (fun x=>x.size≤60) (fun b:Bool ⊕ Unit=>b=.inl false∨(b=.inr ()∧∀x∈ns,x.size≤60)) (by omega) ?_ ?_ ?_
        ·intro i x hi hx;simp(disch:=omega)only[Z7,Zc,Int.toNat_natCast,getD_some hx,Z0];by_cases h8:(60:Int)<x.size
         ·exact⟨_,by simp only[h8,decide_true,cond_true],.inr ⟨_,rfl,.inl rfl⟩⟩
         ·exact⟨_,by simp only[h8,decide_false,cond_false],.inl ⟨rfl,by omega⟩⟩
        ·intro h;exact⟨_,by simp(disch:=omega)only[Z8],.inr ⟨rfl,h⟩⟩
        ·rintro b (rfl|⟨rfl,h⟩)
         ·exact⟨false,rfl,fun h=>by cases h⟩
         ·exact⟨true,rfl,fun _=>⟨by show at'.size≤60;omega,by show c.size≤60;omega,by show g.size≤60;omega,by show ko.size≤60;omega,by show ns.length≤10;omega,h⟩⟩
      ·exact⟨false,by simp only[h1,h2,h3,h4,h5,h6,decide_true,decide_false,Bool.not_false,cond_true,cond_false,Option.bind_some],fun h=>by cases h⟩
def lgA(m:Mt)(s:Qo)(a:Ys):Int:=if Qc a.2.1 Ym=true then Qba s (a.1,a.2.2)else if Qc a.2.1 Yl=true then Qcf s (a.1,a.2.2)else if Qc a.2.1 Yy=true then Qbj s (a.1,a.2.2)else if Qc a.2.1 Yg=true then K7 s (a.1,a.2.2)else if Qc a.2.1 Yx=true then Qb9 m s (a.1,a.2.2)else if Qc a.2.1 Yu=true then U7 m s (a.1,a.2.2)else if Qc a.2.1 Yt=true then Qaj m s (a.1,a.2.2)else if Qc a.2.1 Yp=true then Qbt m s (a.1,a.2.2)else 13
def nxA(s:Qo)(a:Ys):Qo:=if Qc a.2.1 Ym=true then Qd1 s (a.1,a.2.2)else if Qc a.2.1 Yl=true then Qcw s (a.1,a.2.2)else if Qc a.2.1 Yy=true then Qda s (a.1,a.2.2)else if Qc a.2.1 Yg=true then Qd7 s (a.1,a.2.2)else if Qc a.2.1 Yx=true then Qen s (a.1,a.2.2)else if Qc a.2.1 Yu=true then Qdf s (a.1,a.2.2)else if Qc a.2.1 Yt=true then Qdb s (a.1,a.2.2)else if Qc a.2.1 Yp=true then Qdw s (a.1,a.2.2)else s
noncomputable def mvK(F:Nat)(s:Qo)(a:Ys):Option Qo:=bif Qc a.2.1 {data:=List.toArray ((99:UInt8)::(108:UInt8)::(117:UInt8)::(98:UInt8)::Qa UInt8)}then(Option.bind (Qgs F ((a.1,{data:=List.toArray ((99:UInt8)::(108:UInt8)::(117:UInt8)::(98:UInt8)::Qa UInt8)},a.2.2),s)) fun(v:Qo)=>some v)else(bif Qc a.2.1 {data:=List.toArray ((97:UInt8)::(116:UInt8)::(104:UInt8)::(108:UInt8)::(101:UInt8)::(116:UInt8)::(101:UInt8)::Qa UInt8)}then(Option.bind (Qfn F ((a.1,{data:=List.toArray ((97:UInt8)::(116:UInt8)::(104:UInt8)::(108:UInt8)::(101:UInt8)::(116:UInt8)::(101:UInt8)::Qa UInt8)},a.2.2),s)) fun(v:Qo)=>some v)else(bif Qc a.2.1 {data:=List.toArray ((108:UInt8)::(105:UInt8)::(99:UInt8)::(101:UInt8)::(110:UInt8)::(99:UInt8)::(101:UInt8)::Qa UInt8)}then(Option.bind (Qgu F ((a.1,{data:=List.toArray ((108:UInt8)::(105:UInt8)::(99:UInt8)::(101:UInt8)::(110:UInt8)::(99:UInt8)::(101:UInt8)::Qa UInt8)},a.2.2),s)) fun(v:Qo)=>some v)else(bif Qc a.2.1 {data:=List.toArray ((116:UInt8)::(114:UInt8)::(97:UInt8)::(110:UInt8)::(115:UInt8)::(102:UInt8)::(101:UInt8)::(114:UInt8)::Qa UInt8)}then(Option.bind (Qhj F ((a.1,{data:=List.toArray ((116:UInt8)::(114:UInt8)::(97:UInt8)::(110:UInt8)::(115:UInt8)::(102:UInt8)::(101:UInt8)::(114:UInt8)::Qa UInt8)},a.2.2),s)) fun(v:Qo)=>some v)else(bif Qc a.2.1 {data:=List.toArray ((101:UInt8)::(110:UInt8)::(116:UInt8)::(101:UInt8)::(114:UInt8)::Qa UInt8)}then(Option.bind (Qfr F ((a.1,{data:=List.toArray ((101:UInt8)::(110:UInt8)::(116:UInt8)::(101:UInt8)::(114:UInt8)::Qa UInt8)},a.2.2),s)) fun(v:Qo)=>some v)else(bif Qc a.2.1 {data:=List.toArray ((119:UInt8)::(105:UInt8)::(116:UInt8)::(104:UInt8)::(100:UInt8)::(114:UInt8)::(97:UInt8)::(119:UInt8)::Qa UInt8)}then(Option.bind (Qgz F ((a.1,{data:=List.toArray ((119:UInt8)::(105:UInt8)::(116:UInt8)::(104:UInt8)::(100:UInt8)::(114:UInt8)::(97:UInt8)::(119:UInt8)::Qa UInt8)},a.2.2),s)) fun(v:Qo)=>some v)else(bif Qc a.2.1 {data:=List.toArray ((99:UInt8)::(104:UInt8)::(101:UInt8)::(99:UInt8)::(107:UInt8)::Qa UInt8)}then(Option.bind (Qeu F ((a.1,{data:=List.toArray ((99:UInt8)::(104:UInt8)::(101:UInt8)::(99:UInt8)::(107:UInt8)::Qa UInt8)},a.2.2),s)) fun(v:Qo)=>some v)else(gd (Qc a.2.1 {data:=List.toArray ((116:UInt8)::(101:UInt8)::(97:UInt8)::(109:UInt8)::Qa UInt8)}) (Option.bind (Qff F ((a.1,{data:=List.toArray ((116:UInt8)::(101:UInt8)::(97:UInt8)::(109:UInt8)::Qa UInt8)},a.2.2),s)) fun(v:Qo)=>some v))))))))
structure Ky (F:Nat) (m:Mt) (s:Qo) (a:Ys) (lg:Int) (nx:Qo):Prop where
 el:lgA m s a=lg
 en:nxA s a=nx
 p135:Jc F (m,s,a)=some lg
 p60:c60 F (m,s,a)=some lg
 p62:lg=0→c62 F (s,a)=some nx
 mv:lg=0→mvK F s a=some nx
theorem Yi8{F:Nat}(hF:700≤F){m:Mt}(hm:m.2.2.2.2.length≤300){s:Qo}(hS:Zn s){b:Qz}(hv:Ye m=0)(ha:Zt b):Ky F m s (b.1,Ym,b.2) (Qba s b) (Qd1 s b):=by
 have hF4:400≤F:=by omega
 refine⟨rfl,rfl,Yk1 hF hm hS hv ha,Ygm hF hm hS hv ha,fun h=>?_,fun h=>?_⟩
 ·show Qey F (s,b)=_;exact Yf3 hS b
 ·show(Option.bind (Qgs F ((b.1,Ym,b.2),s)) fun(v:Qo)=>some v)=_;rw[Yii hS Ym b];rfl
theorem Zqa{F:Nat}(hF:700≤F){m:Mt}(hm:m.2.2.2.2.length≤300){s:Qo}(hS:Zn s){b:Qz}(hv:Ye m=0)(ha:Zt b):Ky F m s (b.1,Yl,b.2) (Qcf s b) (Qcw s b):=by
 have hF4:400≤F:=by omega
 refine⟨rfl,rfl,Zjy hF hm hS hv ha,Yjc hF hm hS hv ha,fun h=>?_,fun h=>?_⟩
 ·show Qf3 F (s,b)=_;exact Zjv hS b
 ·show(Option.bind (Qfn F ((b.1,Yl,b.2),s)) fun(v:Qo)=>some v)=_;rw[Yat hS Yl b];rfl
theorem Zic{F:Nat}(hF:700≤F){m:Mt}(hm:m.2.2.2.2.length≤300){s:Qo}(hS:Zn s){b:Qz}(hv:Ye m=0)(ha:Zt b):Ky F m s (b.1,Yy,b.2) (Qbj s b) (Qda s b):=by
 have hF4:400≤F:=by omega
 refine⟨rfl,rfl,Zwx hF hm hS hv ha,Zwq hF hm hS hv ha,fun h=>?_,fun h=>?_⟩
 ·show Qfz F (s,b)=_;exact Zwg hS b
 ·show(Option.bind (Qgu F ((b.1,Yy,b.2),s)) fun(v:Qo)=>some v)=_;rw[Yfk hS Yy b];rfl
theorem Zh7{F:Nat}(hF:700≤F){m:Mt}(hm:m.2.2.2.2.length≤300){s:Qo}(hS:Zn s){b:Qz}(hv:Ye m=0)(ha:Zt b):Ky F m s (b.1,Yg,b.2) (K7 s b) (Qd7 s b):=by
 have hF4:400≤F:=by omega
 have hx:K7 s b=0→0≤aI s b.2.1:=fun h=>by unfold K7 at h;split at h<;>omega
 refine⟨rfl,rfl,Zim hF hm hS hv ha,Zja hF hm hS hv ha,fun h=>?_,fun h=>?_⟩
 ·show Qfy F (s,b)=_;exact Zjx hF4 hS (hx h)
 ·show(Option.bind (Qhj F ((b.1,Yg,b.2),s)) fun(v:Qo)=>some v)=_;rw[Ylu hF4 hS Yg (hx h)];rfl
theorem Zpy{F:Nat}(hF:700≤F){m:Mt}(hm:m.2.2.2.2.length≤300){s:Qo}(hS:Zn s){b:Qz}(hv:Ye m=0)(ha:Zt b)(hk:X5 (Kw b)):Ky F m s (b.1,Yx,b.2) (Qb9 m s b) (Qen s b):=by
 have hF4:400≤F:=by omega
 refine⟨rfl,rfl,Ztj hF hm hS hv ha hk,Zyy hF hm hS hv ha hk,fun h=>?_,fun h=>?_⟩
 ·show Qfx F (s,b)=_;exact Zrh hS b
 ·show(Option.bind (Qfr F ((b.1,Yx,b.2),s)) fun(v:Qo)=>some v)=_;rw[Zqb hS Yx b];rfl
theorem Zvm{F:Nat}(hF:700≤F){m:Mt}(hm:m.2.2.2.2.length≤300){s:Qo}(hS:Zn s){b:Qz}(hv:Ye m=0)(ha:Zt b):Ky F m s (b.1,Yu,b.2) (U7 m s b) (Qdf s b):=by
 have hF4:400≤F:=by omega
 have hx:U7 m s b=0→0≤eI s b.2.1 b.2.2.2.2.1:=fun h=>by unfold U7 at h;split at h<;>omega
 refine⟨rfl,rfl,Yhl hF hm hS hv ha,Zqw hF hm hS hv ha,fun h=>?_,fun h=>?_⟩
 ·show Qgv F (s,b)=_;exact Zl2 hF4 hS (hx h)
 ·show(Option.bind (Qgz F ((b.1,Yu,b.2),s)) fun(v:Qo)=>some v)=_;rw[Ydj hF4 hS Yu (hx h)];rfl
theorem Ybm{F:Nat}(hF:700≤F){m:Mt}(hm:m.2.2.2.2.length≤300){s:Qo}(hS:Zn s){b:Qz}(hv:Ye m=0)(ha:Zt b):Ky F m s (b.1,Yt,b.2) (Qaj m s b) (Qdb s b):=by
 have hF4:400≤F:=by omega
 have hx:Qaj m s b=0→0≤eI s b.2.1 b.2.2.2.2.1:=fun h=>by unfold Qaj at h;split at h<;>omega
 refine⟨rfl,rfl,Zzn hF hm hS hv ha,Ylt hF hm hS hv ha,fun h=>?_,fun h=>?_⟩
 ·show Qf2 F (s,b)=_;exact Zyn hF4 hS (hx h)
 ·show(Option.bind (Qeu F ((b.1,Yt,b.2),s)) fun(v:Qo)=>some v)=_;rw[Zz1 hF4 hS Yt (hx h)];rfl
theorem Zi3{F:Nat}(hF:700≤F){m:Mt}(hm:m.2.2.2.2.length≤300){s:Qo}(hS:Zn s){b:Qz}(hv:Ye m=0)(ha:Zt b):Ky F m s (b.1,Yp,b.2) (Qbt m s b) (Qdw s b):=by
 have hF4:400≤F:=by omega
 refine⟨rfl,rfl,Ye7 hF hm hS hv ha,Zu8 hF hm hS hv ha,fun h=>?_,fun h=>?_⟩
 ·show Qe1 F (s,b)=_;exact Yjj hF4 hS ha.n
 ·show(Option.bind (Qff F ((b.1,Yp,b.2),s)) fun(v:Qo)=>some v)=_;rw[Yen hF4 hS Yp ha.n];rfl
theorem Zki{a:Ys}(h:Xi a=0):a.2.1=Ym∨a.2.1=Yl∨a.2.1=Yy∨a.2.1=Yg∨a.2.1=Yx∨a.2.1=Yu∨a.2.1=Yt∨a.2.1=Yp:=by
 by_cases h0:Qc a.2.1 Ym=true
 ·exact .inl (Xj.1 h0)
 have g0:=Bool.eq_false_iff.2 h0;by_cases h1:Qc a.2.1 Yl=true
 ·exact .inr (.inl (Xj.1 h1))
 have g1:=Bool.eq_false_iff.2 h1;by_cases h2:Qc a.2.1 Yy=true
 ·exact .inr (.inr (.inl (Xj.1 h2)))
 have g2:=Bool.eq_false_iff.2 h2;by_cases h3:Qc a.2.1 Yg=true
 ·exact .inr (.inr (.inr (.inl (Xj.1 h3))))
 have g3:=Bool.eq_false_iff.2 h3;by_cases h4:Qc a.2.1 Yx=true
 ·exact .inr (.inr (.inr (.inr (.inl (Xj.1 h4)))))
 have g4:=Bool.eq_false_iff.2 h4;by_cases h5:Qc a.2.1 Yu=true
 ·exact .inr (.inr (.inr (.inr (.inr (.inl (Xj.1 h5))))))
 have g5:=Bool.eq_false_iff.2 h5;by_cases h6:Qc a.2.1 Yt=true
 ·exact .inr (.inr (.inr (.inr (.inr (.inr (.inl (Xj.1 h6)))))))
 have g6:=Bool.eq_false_iff.2 h6;by_cases h7:Qc a.2.1 Yp=true
 ·exact .inr (.inr (.inr (.inr (.inr (.inr (.inr (Xj.1 h7)))))))
 have g7:=Bool.eq_false_iff.2 h7;exfalso;have h13:Xi a=13:=by unfold Xi;simp only[g0,g1,g2,g3,g4,g5,g6,g7,Bool.false_eq_true,if_false]
 rw[h13]at h;cases h
theorem Qwz{F:Nat}(hF:700≤F){m:Mt}(hm:m.2.2.2.2.length≤300){s:Qo}(hS:Zn s){a:Ys}(hv:Ye m=0)(ha:Zt (a.1,a.2.2))(h0:Xi a=0):Ky F m s a (lgA m s a) (nxA s a):=by
 obtain⟨d,k,r⟩:=a;have key:∀lg nx,Ky F m s (d,k,r) lg nx→Ky F m s (d,k,r) (lgA m s (d,k,r)) (nxA s (d,k,r)):=fun lg nx h=>by rw[h.el,h.en];exact h
 rcases Zki h0 with h|h|h|h|h|h|h|h
 ·obtain rfl:k=Ym:=h;exact key _ _ (Yi8 hF hm hS (b:=(d,r)) hv ha)
 ·obtain rfl:k=Yl:=h;exact key _ _ (Zqa hF hm hS (b:=(d,r)) hv ha)
 ·obtain rfl:k=Yy:=h;exact key _ _ (Zic hF hm hS (b:=(d,r)) hv ha)
 ·obtain rfl:k=Yg:=h;exact key _ _ (Zh7 hF hm hS (b:=(d,r)) hv ha)
 ·obtain rfl:k=Yx:=h;exact key _ _ (Zpy hF hm hS (b:=(d,r)) hv ha (Yb1 h0))
 ·obtain rfl:k=Yu:=h;exact key _ _ (Zvm hF hm hS (b:=(d,r)) hv ha)
 ·obtain rfl:k=Yt:=h;exact key _ _ (Ybm hF hm hS (b:=(d,r)) hv ha)
 ·obtain rfl:k=Yp:=h;exact key _ _ (Zi3 hF hm hS (b:=(d,r)) hv ha)
end Go.Proofs.Tryz
