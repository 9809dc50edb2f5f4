/- Plain law: Legal and Next, of the program and of the reference, at any act. Plain law: short acts. -/
import Derived.Test.YtpkbmngnolhopaaGreatDoorXT3y
import Derived.Test.YtpkbmngnolhopaaGreatDoorXT3n
set_option maxRecDepth 100000
set_option linter.unusedVariables false
set_option linter.unusedSimpArgs false
open Option renaming bind_some->j
open List renaming length_singleton->o,length_append->C,length_set->R,length_take->U,length_drop->ZA
open Bool renaming not_true->I,not_false->J
namespace Go.Proofs.Tryz
open Go Go.Sx
theorem Qrr{b:Qx}(h:Z1 (b.1,Yq,b.2)=0):Jn (Qad b):=by have h:Z4 true false false true false false true false false b=0:=h;exact X1 h (Qhe b) (by simp)
structure Jg (s:Qj):Prop where
 c:s.1.length<=256
 a:s.2.1.length<=256
 l:s.2.2.1.length<=256
 e:s.2.2.2.1.length<=256
 t:s.2.2.2.2.length<=256
structure We (s:Qj):Prop where
 c:s.1.length<=40
 a:s.2.1.length<=40
 l:s.2.2.1.length<=40
 e:s.2.2.2.1.length<=40
 t:s.2.2.2.2.length<=40
def zS:Qj:=(Qa ByteArray,Qa Ath,Qa Lic,Qa Zo,Qa Tm)
theorem Qea(F:Nat)(s:Qj)(h:Jg s):Qur F s=some false:=by obtain⟨h1,h2,h3,h4,h5⟩:=h;unfold Qur;simp only[show¬(256:Int)<(s.1.length:Int)by omega,show¬(256:Int)<(s.2.1.length:Int)by omega,show¬(256:Int)<(s.2.2.1.length:Int)by omega,show¬(256:Int)<(s.2.2.2.1.length:Int)by omega,show¬(256:Int)<(s.2.2.2.2.length:Int)by omega,decide_false,cond_false,j]
theorem Zp1{s:Qj}(b:Qx)(h:We s):Jg (Jy s b):=by obtain⟨h1,h2,h3,h4,h5⟩:=h;unfold Jy;constructor<;>simp only[C,o,R,U,ZA]<;>omega
theorem Zqj{s:Qj}(b:Qx)(h:We s):Jg (Jw s b):=by obtain⟨h1,h2,h3,h4,h5⟩:=h;unfold Jw;constructor<;>simp only[C,o,R,U,ZA]<;>omega
theorem Yiz{s:Qj}(b:Qx)(h:We s):Jg (J5 s b):=by obtain⟨h1,h2,h3,h4,h5⟩:=h;unfold J5;constructor<;>simp only[C,o,R,U,ZA]<;>omega
theorem Ydh{s:Qj}(b:Qx)(h:We s):Jg (Ju s b):=by obtain⟨h1,h2,h3,h4,h5⟩:=h;unfold Ju;constructor<;>simp only[C,o,R,U,ZA]<;>omega
theorem Zx2{s:Qj}(b:Qx)(h:We s):Jg (Wa s b):=by obtain⟨h1,h2,h3,h4,h5⟩:=h;unfold Wa;constructor<;>simp only[C,o,R,U,ZA]<;>omega
theorem Yh1{s:Qj}(b:Qx)(h:We s):Jg (Wj s b):=by obtain⟨h1,h2,h3,h4,h5⟩:=h;unfold Wj;constructor<;>simp only[C,o,R,U,ZA]<;>omega
theorem Ya6{s:Qj}(b:Qx)(h:We s):Jg (J9 s b):=by obtain⟨h1,h2,h3,h4,h5⟩:=h;unfold J9;constructor<;>simp only[C,o,R,U,ZA]<;>omega
theorem Ym9{s:Qj}(b:Qx)(h:We s):Jg (Ji s b):=by
 obtain⟨h1,h2,h3,h4,h5⟩:=h;unfold Ji;by_cases p:tI s b.2.2.1 b.2.2.2.2.1<0
 ·rw[if_pos p];exact⟨by show s.1.length<=256;omega,by show s.2.1.length<=256;omega,by show s.2.2.1.length<=256;omega,by show s.2.2.2.1.length<=256;omega,by rw[C,o];omega⟩
 ·rw[if_neg p];exact⟨by show s.1.length<=256;omega,by show s.2.1.length<=256;omega,by show s.2.2.1.length<=256;omega,by show s.2.2.2.1.length<=256;omega,by rw[R];omega⟩
theorem Znz{s:Qj}{b:Qx}(h:∀x∈s.2.2.2.2,x.2.2.length<=300)(hb:b.2.2.2.2.2.2.2.2.2.2.length<=300):∀x∈(Ji s b).2.2.2.2,x.2.2.length<=300:=by
 intro x hx;unfold Ji at hx;by_cases p:tI s b.2.2.1 b.2.2.2.2.1<0
 ·rw[if_pos p]at hx;rcases List.mem_append.1 hx with hx|hx
  ·exact h x hx
  ·rw[List.mem_singleton.1 hx];exact hb
 ·rw[if_neg p]at hx;rcases List.mem_or_eq_of_mem_set hx with hx|hx
  ·exact h x hx
  ·rw[hx];exact hb
def Z5(m:Mt)(s:Qj)(a:Yk)(lg:Int):Int:=if Yi m s=0 then(if Z1 a=0 then lg else Z1 a)else Yi m s
structure Qbo (F:Nat) (m:Mt) (s:Qj) (a:Yk) (lg:Int) (nx:Qj):Prop where
 p49:c49 F (m,s,a)=some (Z5 m s a lg)
 p50:c50 F (m,s,a)=some (if Z5 m s a lg=0 then(nx,0)else(zS,Z5 m s a lg))
 p60:Yi m s=0->Z1 a=0->c60 F (m,s,a)=some lg
 p62:Z5 m s a lg=0->c62 F (s,a)=some nx
 p61:Z5 m s a lg=0->c61 F (s,a)=some false
 len:Z5 m s a lg=0->Jg nx
 run:Z5 m s a lg=0->∀x∈nx.2.2.2.2,x.2.2.length<=300
theorem Ykz{F:Nat}(hF:700<=F){m:Mt}(hm:m.2.2.2.2.length<=300)(hb:∀x∈m.2.2.2.2,x.1.size<=300∧x.2.2.1.size<=300){s:Qj}(hS:Za s)(hf:Yi m s=0->We s){b:Qx}(ha:Zs b):Qbo F m s (b.1,Yl,b.2) (Wx s b) (Jy s b):=by
 have hF4:400<=F:=by omega
 have hl:YK=Yl:=rfl;have e49:c49 F (m,s,b.1,Yl,b.2)=some (Z5 m s (b.1,Yl,b.2) (Wx s b)):=Qde hF hm hb hS ha (fun h1 h2=>Zch hF hm hS (Wt h1) ha);have good:Z5 m s (b.1,Yl,b.2) (Wx s b)=0->Yi m s=0∧Z1 (b.1,Yl,b.2)=0∧Wx s b=0:=fun h=>by
  unfold Z5 at h;by_cases h1:Yi m s=0
  ·rw[if_pos h1]at h;by_cases h2:Z1 (b.1,Yl,b.2)=0
   ·rw[if_pos h2]at h;exact⟨h1,h2,h⟩
   ·rw[if_neg h2]at h;exact absurd h h2
  ·rw[if_neg h1]at h;exact absurd h h1
 have r62:Z5 m s (b.1,Yl,b.2) (Wx s b)=0->c62 F (s,b.1,Yl,b.2)=some (Jy s b):=fun h=>by obtain⟨h1,h2,h3⟩:=good h;show Qgb F (s,b)=_;exact Zlh hS b
 have rlen:Z5 m s (b.1,Yl,b.2) (Wx s b)=0->Jg (Jy s b):=fun h=>Zp1 b (hf (good h).1);refine⟨e49,?_,fun h1 h2=>Zhh hF hm hS (Wt h1) ha,r62,fun h=>?_,rlen,fun h=>hS.tn⟩
 ·show Qli F (m,s,b)=_;unfold Qli;simp only[Q3,hl,e49,j];by_cases h:Z5 m s (b.1,Yl,b.2) (Wx s b)=0
  ·obtain⟨h1,h2,h3⟩:=good h;obtain⟨q1,q2,q3,q4,q5⟩:=rlen h;have hq:¬((((256<((Jy s b).1.length:Int)∨256<((Jy s b).2.1.length:Int))∨256<((Jy s b).2.2.1.length:Int))∨256<((Jy s b).2.2.2.1.length:Int))∨256<((Jy s b).2.2.2.2.length:Int)):=by omega
   simp only[h,decide_true,I,cond_false,if_true,Qc4 hF4 hS,Ziu hS,Qbn,hq,decide_false,j]
  ·simp only[h,decide_false,J,cond_true,if_false];rfl
 ·unfold c61;simp only[Q3,r62 h,Qea F _ (rlen h),j]
theorem Ycp{F:Nat}(hF:700<=F){m:Mt}(hm:m.2.2.2.2.length<=300)(hb:∀x∈m.2.2.2.2,x.1.size<=300∧x.2.2.1.size<=300){s:Qj}(hS:Za s)(hf:Yi m s=0->We s){b:Qx}(ha:Zs b):Qbo F m s (b.1,Yh,b.2) (Wy s b) (Jw s b):=by
 have hF4:400<=F:=by omega
 have hl:YG=Yh:=rfl;have e49:c49 F (m,s,b.1,Yh,b.2)=some (Z5 m s (b.1,Yh,b.2) (Wy s b)):=Qde hF hm hb hS ha (fun h1 h2=>Zi4 hF hm hS (Wt h1) ha);have good:Z5 m s (b.1,Yh,b.2) (Wy s b)=0->Yi m s=0∧Z1 (b.1,Yh,b.2)=0∧Wy s b=0:=fun h=>by
  unfold Z5 at h;by_cases h1:Yi m s=0
  ·rw[if_pos h1]at h;by_cases h2:Z1 (b.1,Yh,b.2)=0
   ·rw[if_pos h2]at h;exact⟨h1,h2,h⟩
   ·rw[if_neg h2]at h;exact absurd h h2
  ·rw[if_neg h1]at h;exact absurd h h1
 have r62:Z5 m s (b.1,Yh,b.2) (Wy s b)=0->c62 F (s,b.1,Yh,b.2)=some (Jw s b):=fun h=>by obtain⟨h1,h2,h3⟩:=good h;show Qgn F (s,b)=_;exact Zar hS b
 have rlen:Z5 m s (b.1,Yh,b.2) (Wy s b)=0->Jg (Jw s b):=fun h=>Zqj b (hf (good h).1);refine⟨e49,?_,fun h1 h2=>Zia hF hm hS (Wt h1) ha,r62,fun h=>?_,rlen,fun h=>hS.tn⟩
 ·show Qj2 F (m,s,b)=_;unfold Qj2;simp only[Q3,hl,e49,j];by_cases h:Z5 m s (b.1,Yh,b.2) (Wy s b)=0
  ·obtain⟨h1,h2,h3⟩:=good h;obtain⟨q1,q2,q3,q4,q5⟩:=rlen h;have hq:¬((((256<((Jw s b).1.length:Int)∨256<((Jw s b).2.1.length:Int))∨256<((Jw s b).2.2.1.length:Int))∨256<((Jw s b).2.2.2.1.length:Int))∨256<((Jw s b).2.2.2.2.length:Int)):=by omega
   simp only[h,decide_true,I,cond_false,if_true,Qc4 hF4 hS,Zen hS,Qbn,hq,decide_false,j]
  ·simp only[h,decide_false,J,cond_true,if_false];rfl
 ·unfold c61;simp only[Q3,r62 h,Qea F _ (rlen h),j]
theorem Zwx{F:Nat}(hF:700<=F){m:Mt}(hm:m.2.2.2.2.length<=300)(hb:∀x∈m.2.2.2.2,x.1.size<=300∧x.2.2.1.size<=300){s:Qj}(hS:Za s)(hf:Yi m s=0->We s){b:Qx}(ha:Zs b):Qbo F m s (b.1,Yt,b.2) (Wp s b) (J5 s b):=by
 have hF4:400<=F:=by omega
 have hl:YH=Yt:=rfl;have e49:c49 F (m,s,b.1,Yt,b.2)=some (Z5 m s (b.1,Yt,b.2) (Wp s b)):=Qde hF hm hb hS ha (fun h1 h2=>Za6 hF hm hS (Wt h1) ha);have good:Z5 m s (b.1,Yt,b.2) (Wp s b)=0->Yi m s=0∧Z1 (b.1,Yt,b.2)=0∧Wp s b=0:=fun h=>by
  unfold Z5 at h;by_cases h1:Yi m s=0
  ·rw[if_pos h1]at h;by_cases h2:Z1 (b.1,Yt,b.2)=0
   ·rw[if_pos h2]at h;exact⟨h1,h2,h⟩
   ·rw[if_neg h2]at h;exact absurd h h2
  ·rw[if_neg h1]at h;exact absurd h h1
 have r62:Z5 m s (b.1,Yt,b.2) (Wp s b)=0->c62 F (s,b.1,Yt,b.2)=some (J5 s b):=fun h=>by obtain⟨h1,h2,h3⟩:=good h;show Qff F (s,b)=_;exact Zj8 hS b
 have rlen:Z5 m s (b.1,Yt,b.2) (Wp s b)=0->Jg (J5 s b):=fun h=>Yiz b (hf (good h).1);refine⟨e49,?_,fun h1 h2=>Zi9 hF hm hS (Wt h1) ha,r62,fun h=>?_,rlen,fun h=>hS.tn⟩
 ·show Qmn F (m,s,b)=_;unfold Qmn;simp only[Q3,hl,e49,j];by_cases h:Z5 m s (b.1,Yt,b.2) (Wp s b)=0
  ·obtain⟨h1,h2,h3⟩:=good h;obtain⟨q1,q2,q3,q4,q5⟩:=rlen h;have hq:¬((((256<((J5 s b).1.length:Int)∨256<((J5 s b).2.1.length:Int))∨256<((J5 s b).2.2.1.length:Int))∨256<((J5 s b).2.2.2.1.length:Int))∨256<((J5 s b).2.2.2.2.length:Int)):=by omega
   simp only[h,decide_true,I,cond_false,if_true,Qc4 hF4 hS,Zdo hS,Qbn,hq,decide_false,j]
  ·simp only[h,decide_false,J,cond_true,if_false];rfl
 ·unfold c61;simp only[Q3,r62 h,Qea F _ (rlen h),j]
theorem Ya0{F:Nat}(hF:700<=F){m:Mt}(hm:m.2.2.2.2.length<=300)(hb:∀x∈m.2.2.2.2,x.1.size<=300∧x.2.2.1.size<=300){s:Qj}(hS:Za s)(hf:Yi m s=0->We s){b:Qx}(ha:Zs b):Qbo F m s (b.1,Yc,b.2) (Jm s b) (Ju s b):=by
 have hF4:400<=F:=by omega
 have hl:YE=Yc:=rfl;have e49:c49 F (m,s,b.1,Yc,b.2)=some (Z5 m s (b.1,Yc,b.2) (Jm s b)):=Qde hF hm hb hS ha (fun h1 h2=>Zdv hF hm hS (Wt h1) ha);have good:Z5 m s (b.1,Yc,b.2) (Jm s b)=0->Yi m s=0∧Z1 (b.1,Yc,b.2)=0∧Jm s b=0:=fun h=>by
  unfold Z5 at h;by_cases h1:Yi m s=0
  ·rw[if_pos h1]at h;by_cases h2:Z1 (b.1,Yc,b.2)=0
   ·rw[if_pos h2]at h;exact⟨h1,h2,h⟩
   ·rw[if_neg h2]at h;exact absurd h h2
  ·rw[if_neg h1]at h;exact absurd h h1
 have r62:Z5 m s (b.1,Yc,b.2) (Jm s b)=0->c62 F (s,b.1,Yc,b.2)=some (Ju s b):=fun h=>by
  obtain⟨h1,h2,h3⟩:=good h;have hx:0<=aI s b.2.1:=by
   unfold Jm at h3;by_cases q:aI s b.2.1<0
   ·simp[q]at h3
   ·omega
  show Qeq F (s,b)=_;exact Zd2 hF4 hS hx
 have rlen:Z5 m s (b.1,Yc,b.2) (Jm s b)=0->Jg (Ju s b):=fun h=>Ydh b (hf (good h).1);refine⟨e49,?_,fun h1 h2=>Ze0 hF hm hS (Wt h1) ha,r62,fun h=>?_,rlen,fun h=>hS.tn⟩
 ·show Qko F (m,s,b)=_;unfold Qko;simp only[Q3,hl,e49,j];by_cases h:Z5 m s (b.1,Yc,b.2) (Jm s b)=0
  ·obtain⟨h1,h2,h3⟩:=good h;obtain⟨q1,q2,q3,q4,q5⟩:=rlen h;have hx:0<=aI s b.2.1:=by
    unfold Jm at h3;by_cases q:aI s b.2.1<0
    ·simp[q]at h3
    ·omega
   have hq:¬((((256<((Ju s b).1.length:Int)∨256<((Ju s b).2.1.length:Int))∨256<((Ju s b).2.2.1.length:Int))∨256<((Ju s b).2.2.2.1.length:Int))∨256<((Ju s b).2.2.2.2.length:Int)):=by omega
   simp only[h,decide_true,I,cond_false,if_true,Qc4 hF4 hS,Zkx hF4 hS _ hx,Qbn,hq,decide_false,j]
  ·simp only[h,decide_false,J,cond_true,if_false];rfl
 ·unfold c61;simp only[Q3,r62 h,Qea F _ (rlen h),j]
theorem Yn7{F:Nat}(hF:700<=F){m:Mt}(hm:m.2.2.2.2.length<=300)(hb:∀x∈m.2.2.2.2,x.1.size<=300∧x.2.2.1.size<=300){s:Qj}(hS:Za s)(hf:Yi m s=0->We s){b:Qx}(ha:Zs b):Qbo F m s (b.1,Yq,b.2) (Wq m s b) (Wa s b):=by
 have hF4:400<=F:=by omega
 have hl:YF=Yq:=rfl;have e49:c49 F (m,s,b.1,Yq,b.2)=some (Z5 m s (b.1,Yq,b.2) (Wq m s b)):=Qde hF hm hb hS ha (fun h1 h2=>Zha hF hm hS (Wt h1) ha (Qrr h2));have good:Z5 m s (b.1,Yq,b.2) (Wq m s b)=0->Yi m s=0∧Z1 (b.1,Yq,b.2)=0∧Wq m s b=0:=fun h=>by
  unfold Z5 at h;by_cases h1:Yi m s=0
  ·rw[if_pos h1]at h;by_cases h2:Z1 (b.1,Yq,b.2)=0
   ·rw[if_pos h2]at h;exact⟨h1,h2,h⟩
   ·rw[if_neg h2]at h;exact absurd h h2
  ·rw[if_neg h1]at h;exact absurd h h1
 have r62:Z5 m s (b.1,Yq,b.2) (Wq m s b)=0->c62 F (s,b.1,Yq,b.2)=some (Wa s b):=fun h=>by obtain⟨h1,h2,h3⟩:=good h;show Qf5 F (s,b)=_;exact Zht hS b
 have rlen:Z5 m s (b.1,Yq,b.2) (Wq m s b)=0->Jg (Wa s b):=fun h=>Zx2 b (hf (good h).1);refine⟨e49,?_,fun h1 h2=>Zcr hF hm hS (Wt h1) ha (Qrr h2),r62,fun h=>?_,rlen,fun h=>hS.tn⟩
 ·show Qm0 F (m,s,b)=_;unfold Qm0;simp only[Q3,hl,e49,j];by_cases h:Z5 m s (b.1,Yq,b.2) (Wq m s b)=0
  ·obtain⟨h1,h2,h3⟩:=good h;obtain⟨q1,q2,q3,q4,q5⟩:=rlen h;have hq:¬((((256<((Wa s b).1.length:Int)∨256<((Wa s b).2.1.length:Int))∨256<((Wa s b).2.2.1.length:Int))∨256<((Wa s b).2.2.2.1.length:Int))∨256<((Wa s b).2.2.2.2.length:Int)):=by omega
   simp only[h,decide_true,I,cond_false,if_true,Qc4 hF4 hS,Zij hS,Qbn,hq,decide_false,j]
  ·simp only[h,decide_false,J,cond_true,if_false];rfl
 ·unfold c61;simp only[Q3,r62 h,Qea F _ (rlen h),j]
theorem Zvy{F:Nat}(hF:700<=F){m:Mt}(hm:m.2.2.2.2.length<=300)(hb:∀x∈m.2.2.2.2,x.1.size<=300∧x.2.2.1.size<=300){s:Qj}(hS:Za s)(hf:Yi m s=0->We s){b:Qx}(ha:Zs b):Qbo F m s (b.1,Yv,b.2) (Jz m s b) (Wj s b):=by
 have hF4:400<=F:=by omega
 have hl:YC=Yv:=rfl;have e49:c49 F (m,s,b.1,Yv,b.2)=some (Z5 m s (b.1,Yv,b.2) (Jz m s b)):=Qde hF hm hb hS ha (fun h1 h2=>Zd4 hF hm hS (Wt h1) ha);have good:Z5 m s (b.1,Yv,b.2) (Jz m s b)=0->Yi m s=0∧Z1 (b.1,Yv,b.2)=0∧Jz m s b=0:=fun h=>by
  unfold Z5 at h;by_cases h1:Yi m s=0
  ·rw[if_pos h1]at h;by_cases h2:Z1 (b.1,Yv,b.2)=0
   ·rw[if_pos h2]at h;exact⟨h1,h2,h⟩
   ·rw[if_neg h2]at h;exact absurd h h2
  ·rw[if_neg h1]at h;exact absurd h h1
 have r62:Z5 m s (b.1,Yv,b.2) (Jz m s b)=0->c62 F (s,b.1,Yv,b.2)=some (Wj s b):=fun h=>by
  obtain⟨h1,h2,h3⟩:=good h;have hx:0<=eI s b.2.1 b.2.2.2.2.1:=by
   unfold Jz at h3;by_cases q:eI s b.2.1 b.2.2.2.2.1<0
   ·simp[q]at h3
   ·omega
  show Qgy F (s,b)=_;exact Zh5 hF4 hS hx
 have rlen:Z5 m s (b.1,Yv,b.2) (Jz m s b)=0->Jg (Wj s b):=fun h=>Yh1 b (hf (good h).1);refine⟨e49,?_,fun h1 h2=>Zff hF hm hS (Wt h1) ha,r62,fun h=>?_,rlen,fun h=>hS.tn⟩
 ·show Qkf F (m,s,b)=_;unfold Qkf;simp only[Q3,hl,e49,j];by_cases h:Z5 m s (b.1,Yv,b.2) (Jz m s b)=0
  ·obtain⟨h1,h2,h3⟩:=good h;obtain⟨q1,q2,q3,q4,q5⟩:=rlen h;have hx:0<=eI s b.2.1 b.2.2.2.2.1:=by
    unfold Jz at h3;by_cases q:eI s b.2.1 b.2.2.2.2.1<0
    ·simp[q]at h3
    ·omega
   have hq:¬((((256<((Wj s b).1.length:Int)∨256<((Wj s b).2.1.length:Int))∨256<((Wj s b).2.2.1.length:Int))∨256<((Wj s b).2.2.2.1.length:Int))∨256<((Wj s b).2.2.2.2.length:Int)):=by omega
   simp only[h,decide_true,I,cond_false,if_true,Qc4 hF4 hS,Zfk hF4 hS _ hx,Qbn,hq,decide_false,j]
  ·simp only[h,decide_false,J,cond_true,if_false];rfl
 ·unfold c61;simp only[Q3,r62 h,Qea F _ (rlen h),j]
theorem Yg6{F:Nat}(hF:700<=F){m:Mt}(hm:m.2.2.2.2.length<=300)(hb:∀x∈m.2.2.2.2,x.1.size<=300∧x.2.2.1.size<=300){s:Qj}(hS:Za s)(hf:Yi m s=0->We s){b:Qx}(ha:Zs b):Qbo F m s (b.1,Yr,b.2) (J1 m s b) (J9 s b):=by
 have hF4:400<=F:=by omega
 have hl:YI=Yr:=rfl;have e49:c49 F (m,s,b.1,Yr,b.2)=some (Z5 m s (b.1,Yr,b.2) (J1 m s b)):=Qde hF hm hb hS ha (fun h1 h2=>Zi2 hF hm hS (Wt h1) ha);have good:Z5 m s (b.1,Yr,b.2) (J1 m s b)=0->Yi m s=0∧Z1 (b.1,Yr,b.2)=0∧J1 m s b=0:=fun h=>by
  unfold Z5 at h;by_cases h1:Yi m s=0
  ·rw[if_pos h1]at h;by_cases h2:Z1 (b.1,Yr,b.2)=0
   ·rw[if_pos h2]at h;exact⟨h1,h2,h⟩
   ·rw[if_neg h2]at h;exact absurd h h2
  ·rw[if_neg h1]at h;exact absurd h h1
 have r62:Z5 m s (b.1,Yr,b.2) (J1 m s b)=0->c62 F (s,b.1,Yr,b.2)=some (J9 s b):=fun h=>by
  obtain⟨h1,h2,h3⟩:=good h;have hx:0<=eI s b.2.1 b.2.2.2.2.1:=by
   unfold J1 at h3;by_cases q:eI s b.2.1 b.2.2.2.2.1<0
   ·simp[q]at h3
   ·omega
  show Qf2 F (s,b)=_;exact Zlw hF4 hS hx
 have rlen:Z5 m s (b.1,Yr,b.2) (J1 m s b)=0->Jg (J9 s b):=fun h=>Ya6 b (hf (good h).1);refine⟨e49,?_,fun h1 h2=>Ziv hF hm hS (Wt h1) ha,r62,fun h=>?_,rlen,fun h=>hS.tn⟩
 ·show Qls F (m,s,b)=_;unfold Qls;simp only[Q3,hl,e49,j];by_cases h:Z5 m s (b.1,Yr,b.2) (J1 m s b)=0
  ·obtain⟨h1,h2,h3⟩:=good h;obtain⟨q1,q2,q3,q4,q5⟩:=rlen h;have hx:0<=eI s b.2.1 b.2.2.2.2.1:=by
    unfold J1 at h3;by_cases q:eI s b.2.1 b.2.2.2.2.1<0
    ·simp[q]at h3
    ·omega
   have hq:¬((((256<((J9 s b).1.length:Int)∨256<((J9 s b).2.1.length:Int))∨256<((J9 s b).2.2.1.length:Int))∨256<((J9 s b).2.2.2.1.length:Int))∨256<((J9 s b).2.2.2.2.length:Int)):=by omega
   simp only[h,decide_true,I,cond_false,if_true,Qc4 hF4 hS,Zc7 hF4 hS _ hx,Qbn,hq,decide_false,j]
  ·simp only[h,decide_false,J,cond_true,if_false];rfl
 ·unfold c61;simp only[Q3,r62 h,Qea F _ (rlen h),j]
theorem Ypf{F:Nat}(hF:700<=F){m:Mt}(hm:m.2.2.2.2.length<=300)(hb:∀x∈m.2.2.2.2,x.1.size<=300∧x.2.2.1.size<=300){s:Qj}(hS:Za s)(hf:Yi m s=0->We s){b:Qx}(ha:Zs b):Qbo F m s (b.1,Yp,b.2) (Wu m s b) (Ji s b):=by
 have hF4:400<=F:=by omega
 have hl:YJ=Yp:=rfl;have e49:c49 F (m,s,b.1,Yp,b.2)=some (Z5 m s (b.1,Yp,b.2) (Wu m s b)):=Qde hF hm hb hS ha (fun h1 h2=>Zdk hF hm hS (Wt h1) ha);have good:Z5 m s (b.1,Yp,b.2) (Wu m s b)=0->Yi m s=0∧Z1 (b.1,Yp,b.2)=0∧Wu m s b=0:=fun h=>by
  unfold Z5 at h;by_cases h1:Yi m s=0
  ·rw[if_pos h1]at h;by_cases h2:Z1 (b.1,Yp,b.2)=0
   ·rw[if_pos h2]at h;exact⟨h1,h2,h⟩
   ·rw[if_neg h2]at h;exact absurd h h2
  ·rw[if_neg h1]at h;exact absurd h h1
 have r62:Z5 m s (b.1,Yp,b.2) (Wu m s b)=0->c62 F (s,b.1,Yp,b.2)=some (Ji s b):=fun h=>by obtain⟨h1,h2,h3⟩:=good h;show Qe1 F (s,b)=_;exact Zkm hF4 hS ha.n
 have rlen:Z5 m s (b.1,Yp,b.2) (Wu m s b)=0->Jg (Ji s b):=fun h=>Ym9 b (hf (good h).1);refine⟨e49,?_,fun h1 h2=>Zjg hF hm hS (Wt h1) ha,r62,fun h=>?_,rlen,fun h=>Znz hS.tn (show b.2.2.2.2.2.2.2.2.2.2.length<=300 by have:=ha.n;omega)⟩
 ·show Ql0 F (m,s,b)=_;unfold Ql0;simp only[Q3,hl,e49,j];by_cases h:Z5 m s (b.1,Yp,b.2) (Wu m s b)=0
  ·obtain⟨h1,h2,h3⟩:=good h;obtain⟨q1,q2,q3,q4,q5⟩:=rlen h;have hq:¬((((256<((Ji s b).1.length:Int)∨256<((Ji s b).2.1.length:Int))∨256<((Ji s b).2.2.1.length:Int))∨256<((Ji s b).2.2.2.1.length:Int))∨256<((Ji s b).2.2.2.2.length:Int)):=by omega
   simp only[h,decide_true,I,cond_false,if_true,Qc4 hF4 hS,Zax hF4 hS _ ha.n,Qbn,hq,decide_false,j]
  ·simp only[h,decide_false,J,cond_true,if_false];rfl
 ·unfold c61;simp only[Q3,r62 h,Qea F _ (rlen h),j]
theorem l19{F:Nat}(hF:400<=F)(a:Yk):∃b,c19 F a=some b∧(b=true->Zs (a.1,a.2.2)):=by
 obtain⟨d,k,at',c,g,ko,f,t,mk,mv,mr,ns⟩:=a;unfold c19;simp only[l79,j];by_cases h1:(60:Int)<k.size
 ·exact⟨false,by simp only[h1,decide_true,cond_true,j],fun h=>by cases h⟩
 ·by_cases h2:(60:Int)<at'.size
  ·exact⟨false,by simp only[h1,h2,decide_true,decide_false,cond_true,cond_false,j],fun h=>by cases h⟩
  ·by_cases h3:(60:Int)<c.size
   ·exact⟨false,by simp only[h1,h2,h3,decide_true,decide_false,cond_true,cond_false,j],fun h=>by cases h⟩
   ·by_cases h4:(60:Int)<g.size
    ·exact⟨false,by simp only[h1,h2,h3,h4,decide_true,decide_false,cond_true,cond_false,j],fun h=>by cases h⟩
    ·by_cases h5:(60:Int)<ko.size
     ·exact⟨false,by simp only[h1,h2,h3,h4,h5,decide_true,decide_false,cond_true,cond_false,j],fun h=>by cases h⟩
     ·by_cases h6:mk.size<=40∧mr.size<=40
      ·by_cases h7:(10:Int)<ns.length
       ·exact⟨false,by simp only[h1,h2,h3,h4,h5,h6,h7,and_self,decide_true,decide_false,I,cond_true,cond_false,j],fun h=>by cases h⟩
       ·simp only[h1,h2,h3,h4,h5,h6,h7,and_self,decide_true,decide_false,I,cond_true,cond_false,j];refine Qu0 ns (fun x=>x.size<=60) (fun b:Bool ⊕ Unit=>b=.inl false∨(b=.inr ()∧∀x∈ns,x.size<=60)) (by omega) ?_ ?_ ?_
        ·intro i x hi hx;simp(disch:=omega)only[Zx,Zf,Int.toNat_natCast,getD_some hx,Zv];by_cases h8:(60:Int)<x.size
         ·exact⟨_,by simp only[h8,decide_true,cond_true],.inr ⟨_,rfl,.inl rfl⟩⟩
         ·exact⟨_,by simp only[h8,decide_false,cond_false],.inl ⟨rfl,by omega⟩⟩
        ·intro h;exact⟨_,by simp(disch:=omega)only[Zz],.inr ⟨rfl,h⟩⟩
        ·rintro b (rfl|⟨rfl,h⟩)
         ·exact⟨false,rfl,fun h=>by cases h⟩
         ·exact⟨true,rfl,fun _=>⟨by show at'.size<=60;omega,by show c.size<=60;omega,by show g.size<=60;omega,by show ko.size<=60;omega,by show ns.length<=10;omega,h⟩⟩
      ·exact⟨false,by simp only[h1,h2,h3,h4,h5,h6,decide_true,decide_false,J,cond_true,cond_false,j],fun h=>by cases h⟩
end Go.Proofs.Tryz
