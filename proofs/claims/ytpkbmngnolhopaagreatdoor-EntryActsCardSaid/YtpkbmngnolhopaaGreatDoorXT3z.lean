/- Plain law: Legal and Next, of the program and of the reference, at any act. Plain law: short acts. And further parts. -/
import Derived.Test.YtpkbmngnolhopaaGreatDoorXT3y
import Derived.Test.YtpkbmngnolhopaaGreatDoorXT3n
import Derived.Test.YtpkbmngnolhopaaGreatDoorXT3f
import Derived.Test.YtpkbmngnolhopaaGreatDoorXT3i
set_option maxRecDepth 100000
set_option linter.unusedVariables false
set_option linter.unusedSimpArgs false
namespace Go.Proofs.Tryz
open Go Go.Sx
theorem Zcw{b:Q1}(h:Y5 (b.1,Yy,b.2)=0):Jj (Qaf b):=by have h:Z7 true false false true false false true false false b=0:=h;exact Quw h (Qha b) (by simp)
structure Ji (s:Qq):Prop where
 c:s.1.length≤256
 a:s.2.1.length≤256
 l:s.2.2.1.length≤256
 e:s.2.2.2.1.length≤256
 t:s.2.2.2.2.length≤256
structure Qbf (s:Qq):Prop where
 c:s.1.length≤6
 a:s.2.1.length≤8
 l:s.2.2.1.length≤12
 e:s.2.2.2.1.length≤20
 t:s.2.2.2.2.length≤6
theorem Qd5{m:Mt}{s:Qq}(hv:Yi m s=0)(h:ShS s):Qbf s:=by
 have h1:=J6 hv;have h2:¬Uw s:=fun h=>by rw[Yi,if_pos h1,if_pos h]at hv;exact absurd hv (by decide)
 unfold Uw at h2;refine⟨?_,?_,?_,?_,?_⟩
 ·rcases h.c with q|q
  ·exact q
  ·omega
 ·rcases h.a with q|q
  ·exact q
  ·omega
 ·rcases h.l with q|q
  ·exact q
  ·omega
 ·rcases h.e with q|q
  ·exact q
  ·omega
 ·rcases h.t with q|q
  ·exact q
  ·omega
def zS:Qq:=(Qa ByteArray,Qa Ath,Qa Lic,Qa Zt,Qa Tm)
theorem Qcw(F:Nat)(s:Qq)(h:Ji s):Qms F s=some false:=by obtain⟨h1,h2,h3,h4,h5⟩:=h;unfold Qms;simp only[show¬(256:Int)<(s.1.length:Int)by omega,show¬(256:Int)<(s.2.1.length:Int)by omega,show¬(256:Int)<(s.2.2.1.length:Int)by omega,show¬(256:Int)<(s.2.2.2.1.length:Int)by omega,show¬(256:Int)<(s.2.2.2.2.length:Int)by omega,decide_false,cond_false,Option.bind_some]
theorem Zsw{s:Qq}(b:Q1)(h:Qbf s):Ji (Vi s b):=by obtain⟨h1,h2,h3,h4,h5⟩:=h;unfold Vi;constructor<;>simp only[List.length_append,List.length_singleton,List.length_set,List.length_take,List.length_drop]<;>omega
theorem Yfr{s:Qq}(b:Q1)(h:Qbf s):Ji (Vl s b):=by obtain⟨h1,h2,h3,h4,h5⟩:=h;unfold Vl;constructor<;>simp only[List.length_append,List.length_singleton,List.length_set,List.length_take,List.length_drop]<;>omega
theorem Ynr{s:Qq}(b:Q1)(h:Qbf s):Ji (W7 s b):=by obtain⟨h1,h2,h3,h4,h5⟩:=h;unfold W7;constructor<;>simp only[List.length_append,List.length_singleton,List.length_set,List.length_take,List.length_drop]<;>omega
theorem Zr7{s:Qq}(b:Q1)(h:Qbf s):Ji (W3 s b):=by obtain⟨h1,h2,h3,h4,h5⟩:=h;unfold W3;constructor<;>simp only[List.length_append,List.length_singleton,List.length_set,List.length_take,List.length_drop]<;>omega
theorem Ygi{s:Qq}(b:Q1)(h:Qbf s):Ji (Vj s b):=by obtain⟨h1,h2,h3,h4,h5⟩:=h;unfold Vj;constructor<;>simp only[List.length_append,List.length_singleton,List.length_set,List.length_take,List.length_drop]<;>omega
theorem Zp9{s:Qq}(b:Q1)(h:Qbf s):Ji (W0 s b):=by obtain⟨h1,h2,h3,h4,h5⟩:=h;unfold W0;constructor<;>simp only[List.length_append,List.length_singleton,List.length_set,List.length_take,List.length_drop]<;>omega
theorem Ygr{s:Qq}(b:Q1)(h:Qbf s):Ji (Vh s b):=by obtain⟨h1,h2,h3,h4,h5⟩:=h;unfold Vh;constructor<;>simp only[List.length_append,List.length_singleton,List.length_set,List.length_take,List.length_drop]<;>omega
theorem Ygc{s:Qq}(b:Q1)(h:Qbf s):Ji (Wl s b):=by
 obtain⟨h1,h2,h3,h4,h5⟩:=h;unfold Wl;by_cases p:tI s b.2.2.1 b.2.2.2.2.1<0
 ·rw[if_pos p];exact⟨by show s.1.length≤256;omega,by show s.2.1.length≤256;omega,by show s.2.2.1.length≤256;omega,by show s.2.2.2.1.length≤256;omega,by rw[List.length_append,List.length_singleton];omega⟩
 ·rw[if_neg p];exact⟨by show s.1.length≤256;omega,by show s.2.1.length≤256;omega,by show s.2.2.1.length≤256;omega,by show s.2.2.2.1.length≤256;omega,by rw[List.length_set];omega⟩
theorem Ym5{s:Qq}{b:Q1}(h:∀x∈s.2.2.2.2,x.2.2.length≤300)(hb:b.2.2.2.2.2.2.2.2.2.2.length≤300):∀x∈(Wl s b).2.2.2.2,x.2.2.length≤300:=by
 intro x hx;unfold Wl at hx;by_cases p:tI s b.2.2.1 b.2.2.2.2.1<0
 ·rw[if_pos p]at hx;rcases List.mem_append.1 hx with hx|hx
  ·exact h x hx
  ·rw[List.mem_singleton.1 hx];exact hb
 ·rw[if_neg p]at hx;rcases List.mem_or_eq_of_mem_set hx with hx|hx
  ·exact h x hx
  ·rw[hx];exact hb
def Zx(m:Mt)(s:Qq)(a:U2)(lg:Int):Int:=if Yi m s=0 then(if Y5 a=0 then lg else Y5 a)else Yi m s
structure Qca (F:Nat) (m:Mt) (s:Qq) (a:U2) (lg:Int) (nx:Qq):Prop where
 p49:c49 F (m,s,a)=some (Zx m s a lg)
 p50:c50 F (m,s,a)=some (if Zx m s a lg=0 then(nx,0)else(zS,Zx m s a lg))
 p60:Yi m s=0→Y5 a=0→c60 F (m,s,a)=some lg
 p62:Zx m s a lg=0→c62 F (s,a)=some nx
 p61:Zx m s a lg=0→c61 F (s,a)=some false
 len:Zx m s a lg=0→Ji nx
 run:Zx m s a lg=0→∀x∈nx.2.2.2.2,x.2.2.length≤300
theorem Zt0{F:Nat}(hF:700≤F){m:Mt}(hm:m.2.2.2.2.length≤300)(hb:∀x∈m.2.2.2.2,x.1.size≤300∧x.2.2.1.size≤300){s:Qq}(hH:ShS s){b:Q1}(ha:Yc b):Qca F m s (b.1,Ym,b.2) (Kc s b) (Vi s b):=by
 have hF4:400≤F:=by omega
 have hl:{data:=List.toArray ((99:UInt8)::(108:UInt8)::(117:UInt8)::(98:UInt8)::Qa UInt8)}=Ym:=rfl;have e49:c49 F (m,s,b.1,Ym,b.2)=some (Zx m s (b.1,Ym,b.2) (Kc s b)):=Qb9 hF hm hb hH.sm ha (fun h1 h2=>Ynk hF hm hH.sm (J6 h1) ha);have good:Zx m s (b.1,Ym,b.2) (Kc s b)=0→Yi m s=0∧Y5 (b.1,Ym,b.2)=0∧Kc s b=0:=fun h=>by
  unfold Zx at h;by_cases h1:Yi m s=0
  ·rw[if_pos h1]at h;by_cases h2:Y5 (b.1,Ym,b.2)=0
   ·rw[if_pos h2]at h;exact⟨h1,h2,h⟩
   ·rw[if_neg h2]at h;exact absurd h h2
  ·rw[if_neg h1]at h;exact absurd h h1
 have r62:Zx m s (b.1,Ym,b.2) (Kc s b)=0→c62 F (s,b.1,Ym,b.2)=some (Vi s b):=fun h=>by obtain⟨h1,h2,h3⟩:=good h;show Qh8 F (s,b)=_;exact Zzy hH.sm b
 have rlen:Zx m s (b.1,Ym,b.2) (Kc s b)=0→Ji (Vi s b):=fun h=>Zsw b (Qd5 (good h).1 hH);refine⟨e49,?_,fun h1 h2=>Ycz hF hm hH.sm (J6 h1) ha,r62,fun h=>?_,rlen,fun h=>hH.sm.tn⟩
 ·show Qkf F (m,s,b)=_;unfold Qkf;simp only[Q3,hl,e49,Option.bind_some];by_cases h:Zx m s (b.1,Ym,b.2) (Kc s b)=0
  ·obtain⟨h1,h2,h3⟩:=good h;obtain⟨q1,q2,q3,q4,q5⟩:=rlen h;have hq:¬((((256<((Vi s b).1.length:Int)∨256<((Vi s b).2.1.length:Int))∨256<((Vi s b).2.2.1.length:Int))∨256<((Vi s b).2.2.2.1.length:Int))∨256<((Vi s b).2.2.2.2.length:Int)):=by omega
   simp only[h,decide_true,Bool.not_true,cond_false,if_true,Qc9 hF4 hH.sm,Yaq hH.sm,Qbg,hq,decide_false,Option.bind_some]
  ·simp only[h,decide_false,Bool.not_false,cond_true,if_false];rfl
 ·unfold c61;simp only[Q3,r62 h,Qcw F _ (rlen h),Option.bind_some]
theorem Zw2{F:Nat}(hF:700≤F){m:Mt}(hm:m.2.2.2.2.length≤300)(hb:∀x∈m.2.2.2.2,x.1.size≤300∧x.2.2.1.size≤300){s:Qq}(hH:ShS s){b:Q1}(ha:Yc b):Qca F m s (b.1,Yk,b.2) (Vt s b) (Vl s b):=by
 have hF4:400≤F:=by omega
 have hl:{data:=List.toArray ((97:UInt8)::(116:UInt8)::(104:UInt8)::(108:UInt8)::(101:UInt8)::(116:UInt8)::(101:UInt8)::Qa UInt8)}=Yk:=rfl;have e49:c49 F (m,s,b.1,Yk,b.2)=some (Zx m s (b.1,Yk,b.2) (Vt s b)):=Qb9 hF hm hb hH.sm ha (fun h1 h2=>Yco hF hm hH.sm (J6 h1) ha);have good:Zx m s (b.1,Yk,b.2) (Vt s b)=0→Yi m s=0∧Y5 (b.1,Yk,b.2)=0∧Vt s b=0:=fun h=>by
  unfold Zx at h;by_cases h1:Yi m s=0
  ·rw[if_pos h1]at h;by_cases h2:Y5 (b.1,Yk,b.2)=0
   ·rw[if_pos h2]at h;exact⟨h1,h2,h⟩
   ·rw[if_neg h2]at h;exact absurd h h2
  ·rw[if_neg h1]at h;exact absurd h h1
 have r62:Zx m s (b.1,Yk,b.2) (Vt s b)=0→c62 F (s,b.1,Yk,b.2)=some (Vl s b):=fun h=>by obtain⟨h1,h2,h3⟩:=good h;show Qhs F (s,b)=_;exact Zug hH.sm b
 have rlen:Zx m s (b.1,Yk,b.2) (Vt s b)=0→Ji (Vl s b):=fun h=>Yfr b (Qd5 (good h).1 hH);refine⟨e49,?_,fun h1 h2=>Zyj hF hm hH.sm (J6 h1) ha,r62,fun h=>?_,rlen,fun h=>hH.sm.tn⟩
 ·show Qkt F (m,s,b)=_;unfold Qkt;simp only[Q3,hl,e49,Option.bind_some];by_cases h:Zx m s (b.1,Yk,b.2) (Vt s b)=0
  ·obtain⟨h1,h2,h3⟩:=good h;obtain⟨q1,q2,q3,q4,q5⟩:=rlen h;have hq:¬((((256<((Vl s b).1.length:Int)∨256<((Vl s b).2.1.length:Int))∨256<((Vl s b).2.2.1.length:Int))∨256<((Vl s b).2.2.2.1.length:Int))∨256<((Vl s b).2.2.2.2.length:Int)):=by omega
   simp only[h,decide_true,Bool.not_true,cond_false,if_true,Qc9 hF4 hH.sm,Zxn hH.sm,Qbg,hq,decide_false,Option.bind_some]
  ·simp only[h,decide_false,Bool.not_false,cond_true,if_false];rfl
 ·unfold c61;simp only[Q3,r62 h,Qcw F _ (rlen h),Option.bind_some]
theorem Zyz{F:Nat}(hF:700≤F){m:Mt}(hm:m.2.2.2.2.length≤300)(hb:∀x∈m.2.2.2.2,x.1.size≤300∧x.2.2.1.size≤300){s:Qq}(hH:ShS s){b:Q1}(ha:Yc b):Qca F m s (b.1,Yx,b.2) (V3 s b) (W7 s b):=by
 have hF4:400≤F:=by omega
 have hl:{data:=List.toArray ((108:UInt8)::(105:UInt8)::(99:UInt8)::(101:UInt8)::(110:UInt8)::(99:UInt8)::(101:UInt8)::Qa UInt8)}=Yx:=rfl;have e49:c49 F (m,s,b.1,Yx,b.2)=some (Zx m s (b.1,Yx,b.2) (V3 s b)):=Qb9 hF hm hb hH.sm ha (fun h1 h2=>Zx0 hF hm hH.sm (J6 h1) ha);have good:Zx m s (b.1,Yx,b.2) (V3 s b)=0→Yi m s=0∧Y5 (b.1,Yx,b.2)=0∧V3 s b=0:=fun h=>by
  unfold Zx at h;by_cases h1:Yi m s=0
  ·rw[if_pos h1]at h;by_cases h2:Y5 (b.1,Yx,b.2)=0
   ·rw[if_pos h2]at h;exact⟨h1,h2,h⟩
   ·rw[if_neg h2]at h;exact absurd h h2
  ·rw[if_neg h1]at h;exact absurd h h1
 have r62:Zx m s (b.1,Yx,b.2) (V3 s b)=0→c62 F (s,b.1,Yx,b.2)=some (W7 s b):=fun h=>by obtain⟨h1,h2,h3⟩:=good h;show Qhj F (s,b)=_;exact Yhz hH.sm b
 have rlen:Zx m s (b.1,Yx,b.2) (V3 s b)=0→Ji (W7 s b):=fun h=>Ynr b (Qd5 (good h).1 hH);refine⟨e49,?_,fun h1 h2=>Zqv hF hm hH.sm (J6 h1) ha,r62,fun h=>?_,rlen,fun h=>hH.sm.tn⟩
 ·show Qlp F (m,s,b)=_;unfold Qlp;simp only[Q3,hl,e49,Option.bind_some];by_cases h:Zx m s (b.1,Yx,b.2) (V3 s b)=0
  ·obtain⟨h1,h2,h3⟩:=good h;obtain⟨q1,q2,q3,q4,q5⟩:=rlen h;have hq:¬((((256<((W7 s b).1.length:Int)∨256<((W7 s b).2.1.length:Int))∨256<((W7 s b).2.2.1.length:Int))∨256<((W7 s b).2.2.2.1.length:Int))∨256<((W7 s b).2.2.2.2.length:Int)):=by omega
   simp only[h,decide_true,Bool.not_true,cond_false,if_true,Qc9 hF4 hH.sm,Zr9 hH.sm,Qbg,hq,decide_false,Option.bind_some]
  ·simp only[h,decide_false,Bool.not_false,cond_true,if_false];rfl
 ·unfold c61;simp only[Q3,r62 h,Qcw F _ (rlen h),Option.bind_some]
theorem Zkt{F:Nat}(hF:700≤F){m:Mt}(hm:m.2.2.2.2.length≤300)(hb:∀x∈m.2.2.2.2,x.1.size≤300∧x.2.2.1.size≤300){s:Qq}(hH:ShS s){b:Q1}(ha:Yc b):Qca F m s (b.1,Yf,b.2) (Wv s b) (W3 s b):=by
 have hF4:400≤F:=by omega
 have hl:{data:=List.toArray ((116:UInt8)::(114:UInt8)::(97:UInt8)::(110:UInt8)::(115:UInt8)::(102:UInt8)::(101:UInt8)::(114:UInt8)::Qa UInt8)}=Yf:=rfl;have e49:c49 F (m,s,b.1,Yf,b.2)=some (Zx m s (b.1,Yf,b.2) (Wv s b)):=Qb9 hF hm hb hH.sm ha (fun h1 h2=>Zpr hF hm hH.sm (J6 h1) ha);have good:Zx m s (b.1,Yf,b.2) (Wv s b)=0→Yi m s=0∧Y5 (b.1,Yf,b.2)=0∧Wv s b=0:=fun h=>by
  unfold Zx at h;by_cases h1:Yi m s=0
  ·rw[if_pos h1]at h;by_cases h2:Y5 (b.1,Yf,b.2)=0
   ·rw[if_pos h2]at h;exact⟨h1,h2,h⟩
   ·rw[if_neg h2]at h;exact absurd h h2
  ·rw[if_neg h1]at h;exact absurd h h1
 have r62:Zx m s (b.1,Yf,b.2) (Wv s b)=0→c62 F (s,b.1,Yf,b.2)=some (W3 s b):=fun h=>by
  obtain⟨h1,h2,h3⟩:=good h;have hx:0≤aI s b.2.1:=by
   unfold Wv at h3;by_cases q:aI s b.2.1<0
   ·simp[q]at h3
   ·omega
  show Qgv F (s,b)=_;exact Ydb hF4 hH.sm hx
 have rlen:Zx m s (b.1,Yf,b.2) (Wv s b)=0→Ji (W3 s b):=fun h=>Zr7 b (Qd5 (good h).1 hH);refine⟨e49,?_,fun h1 h2=>Zqo hF hm hH.sm (J6 h1) ha,r62,fun h=>?_,rlen,fun h=>hH.sm.tn⟩
 ·show Qlb F (m,s,b)=_;unfold Qlb;simp only[Q3,hl,e49,Option.bind_some];by_cases h:Zx m s (b.1,Yf,b.2) (Wv s b)=0
  ·obtain⟨h1,h2,h3⟩:=good h;obtain⟨q1,q2,q3,q4,q5⟩:=rlen h;have hx:0≤aI s b.2.1:=by
    unfold Wv at h3;by_cases q:aI s b.2.1<0
    ·simp[q]at h3
    ·omega
   have hq:¬((((256<((W3 s b).1.length:Int)∨256<((W3 s b).2.1.length:Int))∨256<((W3 s b).2.2.1.length:Int))∨256<((W3 s b).2.2.2.1.length:Int))∨256<((W3 s b).2.2.2.2.length:Int)):=by omega
   simp only[h,decide_true,Bool.not_true,cond_false,if_true,Qc9 hF4 hH.sm,Zo9 hF4 hH.sm _ hx,Qbg,hq,decide_false,Option.bind_some]
  ·simp only[h,decide_false,Bool.not_false,cond_true,if_false];rfl
 ·unfold c61;simp only[Q3,r62 h,Qcw F _ (rlen h),Option.bind_some]
theorem Zmh{F:Nat}(hF:700≤F){m:Mt}(hm:m.2.2.2.2.length≤300)(hb:∀x∈m.2.2.2.2,x.1.size≤300∧x.2.2.1.size≤300){s:Qq}(hH:ShS s){b:Q1}(ha:Yc b):Qca F m s (b.1,Yy,b.2) (V1 m s b) (Vj s b):=by
 have hF4:400≤F:=by omega
 have hl:{data:=List.toArray ((101:UInt8)::(110:UInt8)::(116:UInt8)::(101:UInt8)::(114:UInt8)::Qa UInt8)}=Yy:=rfl;have e49:c49 F (m,s,b.1,Yy,b.2)=some (Zx m s (b.1,Yy,b.2) (V1 m s b)):=Qb9 hF hm hb hH.sm ha (fun h1 h2=>Zkb hF hm hH.sm (J6 h1) ha (Zcw h2));have good:Zx m s (b.1,Yy,b.2) (V1 m s b)=0→Yi m s=0∧Y5 (b.1,Yy,b.2)=0∧V1 m s b=0:=fun h=>by
  unfold Zx at h;by_cases h1:Yi m s=0
  ·rw[if_pos h1]at h;by_cases h2:Y5 (b.1,Yy,b.2)=0
   ·rw[if_pos h2]at h;exact⟨h1,h2,h⟩
   ·rw[if_neg h2]at h;exact absurd h h2
  ·rw[if_neg h1]at h;exact absurd h h1
 have r62:Zx m s (b.1,Yy,b.2) (V1 m s b)=0→c62 F (s,b.1,Yy,b.2)=some (Vj s b):=fun h=>by obtain⟨h1,h2,h3⟩:=good h;show Qis F (s,b)=_;exact Ya8 hH.sm b
 have rlen:Zx m s (b.1,Yy,b.2) (V1 m s b)=0→Ji (Vj s b):=fun h=>Ygi b (Qd5 (good h).1 hH);refine⟨e49,?_,fun h1 h2=>Yg4 hF hm hH.sm (J6 h1) ha (Zcw h2),r62,fun h=>?_,rlen,fun h=>hH.sm.tn⟩
 ·show Qmb F (m,s,b)=_;unfold Qmb;simp only[Q3,hl,e49,Option.bind_some];by_cases h:Zx m s (b.1,Yy,b.2) (V1 m s b)=0
  ·obtain⟨h1,h2,h3⟩:=good h;obtain⟨q1,q2,q3,q4,q5⟩:=rlen h;have hq:¬((((256<((Vj s b).1.length:Int)∨256<((Vj s b).2.1.length:Int))∨256<((Vj s b).2.2.1.length:Int))∨256<((Vj s b).2.2.2.1.length:Int))∨256<((Vj s b).2.2.2.2.length:Int)):=by omega
   simp only[h,decide_true,Bool.not_true,cond_false,if_true,Qc9 hF4 hH.sm,Yaw hH.sm,Qbg,hq,decide_false,Option.bind_some]
  ·simp only[h,decide_false,Bool.not_false,cond_true,if_false];rfl
 ·unfold c61;simp only[Q3,r62 h,Qcw F _ (rlen h),Option.bind_some]
theorem Zsk{F:Nat}(hF:700≤F){m:Mt}(hm:m.2.2.2.2.length≤300)(hb:∀x∈m.2.2.2.2,x.1.size≤300∧x.2.2.1.size≤300){s:Qq}(hH:ShS s){b:Q1}(ha:Yc b):Qca F m s (b.1,Yv,b.2) (W4 m s b) (W0 s b):=by
 have hF4:400≤F:=by omega
 have hl:{data:=List.toArray ((119:UInt8)::(105:UInt8)::(116:UInt8)::(104:UInt8)::(100:UInt8)::(114:UInt8)::(97:UInt8)::(119:UInt8)::Qa UInt8)}=Yv:=rfl;have e49:c49 F (m,s,b.1,Yv,b.2)=some (Zx m s (b.1,Yv,b.2) (W4 m s b)):=Qb9 hF hm hb hH.sm ha (fun h1 h2=>Yjb hF hm hH.sm (J6 h1) ha);have good:Zx m s (b.1,Yv,b.2) (W4 m s b)=0→Yi m s=0∧Y5 (b.1,Yv,b.2)=0∧W4 m s b=0:=fun h=>by
  unfold Zx at h;by_cases h1:Yi m s=0
  ·rw[if_pos h1]at h;by_cases h2:Y5 (b.1,Yv,b.2)=0
   ·rw[if_pos h2]at h;exact⟨h1,h2,h⟩
   ·rw[if_neg h2]at h;exact absurd h h2
  ·rw[if_neg h1]at h;exact absurd h h1
 have r62:Zx m s (b.1,Yv,b.2) (W4 m s b)=0→c62 F (s,b.1,Yv,b.2)=some (W0 s b):=fun h=>by
  obtain⟨h1,h2,h3⟩:=good h;have hx:0≤eI s b.2.1 b.2.2.2.2.1:=by
   unfold W4 at h3;by_cases q:eI s b.2.1 b.2.2.2.2.1<0
   ·simp[q]at h3
   ·omega
  show Qi4 F (s,b)=_;exact Zmz hF4 hH.sm hx
 have rlen:Zx m s (b.1,Yv,b.2) (W4 m s b)=0→Ji (W0 s b):=fun h=>Zp9 b (Qd5 (good h).1 hH);refine⟨e49,?_,fun h1 h2=>Ygq hF hm hH.sm (J6 h1) ha,r62,fun h=>?_,rlen,fun h=>hH.sm.tn⟩
 ·show Qll F (m,s,b)=_;unfold Qll;simp only[Q3,hl,e49,Option.bind_some];by_cases h:Zx m s (b.1,Yv,b.2) (W4 m s b)=0
  ·obtain⟨h1,h2,h3⟩:=good h;obtain⟨q1,q2,q3,q4,q5⟩:=rlen h;have hx:0≤eI s b.2.1 b.2.2.2.2.1:=by
    unfold W4 at h3;by_cases q:eI s b.2.1 b.2.2.2.2.1<0
    ·simp[q]at h3
    ·omega
   have hq:¬((((256<((W0 s b).1.length:Int)∨256<((W0 s b).2.1.length:Int))∨256<((W0 s b).2.2.1.length:Int))∨256<((W0 s b).2.2.2.1.length:Int))∨256<((W0 s b).2.2.2.2.length:Int)):=by omega
   simp only[h,decide_true,Bool.not_true,cond_false,if_true,Qc9 hF4 hH.sm,Ygm hF4 hH.sm _ hx,Qbg,hq,decide_false,Option.bind_some]
  ·simp only[h,decide_false,Bool.not_false,cond_true,if_false];rfl
 ·unfold c61;simp only[Q3,r62 h,Qcw F _ (rlen h),Option.bind_some]
theorem Ygn{F:Nat}(hF:700≤F){m:Mt}(hm:m.2.2.2.2.length≤300)(hb:∀x∈m.2.2.2.2,x.1.size≤300∧x.2.2.1.size≤300){s:Qq}(hH:ShS s){b:Q1}(ha:Yc b):Qca F m s (b.1,Yu,b.2) (W8 m s b) (Vh s b):=by
 have hF4:400≤F:=by omega
 have hl:{data:=List.toArray ((99:UInt8)::(104:UInt8)::(101:UInt8)::(99:UInt8)::(107:UInt8)::Qa UInt8)}=Yu:=rfl;have e49:c49 F (m,s,b.1,Yu,b.2)=some (Zx m s (b.1,Yu,b.2) (W8 m s b)):=Qb9 hF hm hb hH.sm ha (fun h1 h2=>Ybp hF hm hH.sm (J6 h1) ha);have good:Zx m s (b.1,Yu,b.2) (W8 m s b)=0→Yi m s=0∧Y5 (b.1,Yu,b.2)=0∧W8 m s b=0:=fun h=>by
  unfold Zx at h;by_cases h1:Yi m s=0
  ·rw[if_pos h1]at h;by_cases h2:Y5 (b.1,Yu,b.2)=0
   ·rw[if_pos h2]at h;exact⟨h1,h2,h⟩
   ·rw[if_neg h2]at h;exact absurd h h2
  ·rw[if_neg h1]at h;exact absurd h h1
 have r62:Zx m s (b.1,Yu,b.2) (W8 m s b)=0→c62 F (s,b.1,Yu,b.2)=some (Vh s b):=fun h=>by
  obtain⟨h1,h2,h3⟩:=good h;have hx:0≤eI s b.2.1 b.2.2.2.2.1:=by
   unfold W8 at h3;by_cases q:eI s b.2.1 b.2.2.2.2.1<0
   ·simp[q]at h3
   ·omega
  show Qiu F (s,b)=_;exact Ybq hF4 hH.sm hx
 have rlen:Zx m s (b.1,Yu,b.2) (W8 m s b)=0→Ji (Vh s b):=fun h=>Ygr b (Qd5 (good h).1 hH);refine⟨e49,?_,fun h1 h2=>Yb7 hF hm hH.sm (J6 h1) ha,r62,fun h=>?_,rlen,fun h=>hH.sm.tn⟩
 ·show Ql6 F (m,s,b)=_;unfold Ql6;simp only[Q3,hl,e49,Option.bind_some];by_cases h:Zx m s (b.1,Yu,b.2) (W8 m s b)=0
  ·obtain⟨h1,h2,h3⟩:=good h;obtain⟨q1,q2,q3,q4,q5⟩:=rlen h;have hx:0≤eI s b.2.1 b.2.2.2.2.1:=by
    unfold W8 at h3;by_cases q:eI s b.2.1 b.2.2.2.2.1<0
    ·simp[q]at h3
    ·omega
   have hq:¬((((256<((Vh s b).1.length:Int)∨256<((Vh s b).2.1.length:Int))∨256<((Vh s b).2.2.1.length:Int))∨256<((Vh s b).2.2.2.1.length:Int))∨256<((Vh s b).2.2.2.2.length:Int)):=by omega
   simp only[h,decide_true,Bool.not_true,cond_false,if_true,Qc9 hF4 hH.sm,Yhr hF4 hH.sm _ hx,Qbg,hq,decide_false,Option.bind_some]
  ·simp only[h,decide_false,Bool.not_false,cond_true,if_false];rfl
 ·unfold c61;simp only[Q3,r62 h,Qcw F _ (rlen h),Option.bind_some]
theorem Zqf{F:Nat}(hF:700≤F){m:Mt}(hm:m.2.2.2.2.length≤300)(hb:∀x∈m.2.2.2.2,x.1.size≤300∧x.2.2.1.size≤300){s:Qq}(hH:ShS s){b:Q1}(ha:Yc b):Qca F m s (b.1,Yq,b.2) (Vz m s b) (Wl s b):=by
 have hF4:400≤F:=by omega
 have hl:{data:=List.toArray ((116:UInt8)::(101:UInt8)::(97:UInt8)::(109:UInt8)::Qa UInt8)}=Yq:=rfl;have e49:c49 F (m,s,b.1,Yq,b.2)=some (Zx m s (b.1,Yq,b.2) (Vz m s b)):=Qb9 hF hm hb hH.sm ha (fun h1 h2=>Zwt hF hm hH.sm (J6 h1) ha);have good:Zx m s (b.1,Yq,b.2) (Vz m s b)=0→Yi m s=0∧Y5 (b.1,Yq,b.2)=0∧Vz m s b=0:=fun h=>by
  unfold Zx at h;by_cases h1:Yi m s=0
  ·rw[if_pos h1]at h;by_cases h2:Y5 (b.1,Yq,b.2)=0
   ·rw[if_pos h2]at h;exact⟨h1,h2,h⟩
   ·rw[if_neg h2]at h;exact absurd h h2
  ·rw[if_neg h1]at h;exact absurd h h1
 have r62:Zx m s (b.1,Yq,b.2) (Vz m s b)=0→c62 F (s,b.1,Yq,b.2)=some (Wl s b):=fun h=>by obtain⟨h1,h2,h3⟩:=good h;show Qh3 F (s,b)=_;exact Ylu hF4 hH.sm ha.n
 have rlen:Zx m s (b.1,Yq,b.2) (Vz m s b)=0→Ji (Wl s b):=fun h=>Ygc b (Qd5 (good h).1 hH);refine⟨e49,?_,fun h1 h2=>Yhp hF hm hH.sm (J6 h1) ha,r62,fun h=>?_,rlen,fun h=>Ym5 hH.sm.tn (show b.2.2.2.2.2.2.2.2.2.2.length≤300 by have:=ha.n;omega)⟩
 ·show Ql3 F (m,s,b)=_;unfold Ql3;simp only[Q3,hl,e49,Option.bind_some];by_cases h:Zx m s (b.1,Yq,b.2) (Vz m s b)=0
  ·obtain⟨h1,h2,h3⟩:=good h;obtain⟨q1,q2,q3,q4,q5⟩:=rlen h;have hq:¬((((256<((Wl s b).1.length:Int)∨256<((Wl s b).2.1.length:Int))∨256<((Wl s b).2.2.1.length:Int))∨256<((Wl s b).2.2.2.1.length:Int))∨256<((Wl s b).2.2.2.2.length:Int)):=by omega
   simp only[h,decide_true,Bool.not_true,cond_false,if_true,Qc9 hF4 hH.sm,Ybc hF4 hH.sm _ ha.n,Qbg,hq,decide_false,Option.bind_some]
  ·simp only[h,decide_false,Bool.not_false,cond_true,if_false];rfl
 ·unfold c61;simp only[Q3,r62 h,Qcw F _ (rlen h),Option.bind_some]
theorem Zw0{F:Nat}(hF:700≤F){m:Mt}(hm:m.2.2.2.2.length≤300)(hb:∀x∈m.2.2.2.2,x.1.size≤300∧x.2.2.1.size≤300){s:Qq}(hH:ShS s){a:U2}(ha:Yc (a.1,a.2.2)):∃lg nx,Qca F m s a lg nx:=by
 obtain⟨d,k,r⟩:=a;by_cases h0:Qc k Ym=true
 ·obtain rfl:=Xw.1 h0;exact⟨_,_,Zt0 hF hm hb hH (b:=(d,r)) ha⟩
 ·have g0:=Bool.eq_false_iff.2 h0;by_cases h1:Qc k Yk=true
  ·obtain rfl:=Xw.1 h1;exact⟨_,_,Zw2 hF hm hb hH (b:=(d,r)) ha⟩
  ·have g1:=Bool.eq_false_iff.2 h1;by_cases h2:Qc k Yx=true
   ·obtain rfl:=Xw.1 h2;exact⟨_,_,Zyz hF hm hb hH (b:=(d,r)) ha⟩
   ·have g2:=Bool.eq_false_iff.2 h2;by_cases h3:Qc k Yf=true
    ·obtain rfl:=Xw.1 h3;exact⟨_,_,Zkt hF hm hb hH (b:=(d,r)) ha⟩
    ·have g3:=Bool.eq_false_iff.2 h3;by_cases h4:Qc k Yy=true
     ·obtain rfl:=Xw.1 h4;exact⟨_,_,Zmh hF hm hb hH (b:=(d,r)) ha⟩
     ·have g4:=Bool.eq_false_iff.2 h4;by_cases h5:Qc k Yv=true
      ·obtain rfl:=Xw.1 h5;exact⟨_,_,Zsk hF hm hb hH (b:=(d,r)) ha⟩
      ·have g5:=Bool.eq_false_iff.2 h5;by_cases h6:Qc k Yu=true
       ·obtain rfl:=Xw.1 h6;exact⟨_,_,Ygn hF hm hb hH (b:=(d,r)) ha⟩
       ·have g6:=Bool.eq_false_iff.2 h6;by_cases h7:Qc k Yq=true
        ·obtain rfl:=Xw.1 h7;exact⟨_,_,Zqf hF hm hb hH (b:=(d,r)) ha⟩
        ·have g7:=Bool.eq_false_iff.2 h7;have h13:Y5 (d,k,r)=13:=by unfold Y5;simp only[g0,g1,g2,g3,g4,g5,g6,g7,Bool.false_eq_true,if_false]
         have hne:Zx m s (d,k,r) 0≠0:=by
          unfold Zx;by_cases h1:Yi m s=0
          ·rw[if_pos h1,h13];decide
          ·rw[if_neg h1];exact h1
         have e49:c49 F (m,s,d,k,r)=some (Zx m s (d,k,r) 0):=Qb9 hF hm hb hH.sm ha (fun h1 h2=>by rw[h13]at h2;cases h2);refine⟨0,zS,e49,?_,fun h1 h2=>by(rw[h13]at h2;cases h2),fun h=>absurd h hne,fun h=>absurd h hne,fun h=>absurd h hne,fun h=>absurd h hne⟩;unfold c50;simp only[show Qc k Qdm=false from g0,show Qc k Qc2=false from g1,show Qc k Qdn=false from g2,show Qc k Qcq=false from g3,show Qc k Qda=false from g4,show Qc k Qc7=false from g5,show Qc k Qcx=false from g6,show Qc k Qdr=false from g7,cond_false];unfold Qmx;simp only[Q3,e49,hne,decide_false,Bool.not_false,cond_true,if_false,Option.bind_some];rfl
theorem l19{F:Nat}(hF:400≤F)(a:U2):∃b,c19 F a=some b∧(b=true→Yc (a.1,a.2.2)):=by
 obtain⟨d,k,at',c,g,ko,f,t,mk,mv,mr,ns⟩:=a;unfold c19;simp only[l79,Option.bind_some];by_cases h1:(60:Int)<k.size
 ·exact⟨false,by simp only[h1,decide_true,cond_true,Option.bind_some],fun h=>by cases h⟩
 ·by_cases h2:(60:Int)<at'.size
  ·exact⟨false,by simp only[h1,h2,decide_true,decide_false,cond_true,cond_false,Option.bind_some],fun h=>by cases h⟩
  ·by_cases h3:(60:Int)<c.size
   ·exact⟨false,by simp only[h1,h2,h3,decide_true,decide_false,cond_true,cond_false,Option.bind_some],fun h=>by cases h⟩
   ·by_cases h4:(60:Int)<g.size
    ·exact⟨false,by simp only[h1,h2,h3,h4,decide_true,decide_false,cond_true,cond_false,Option.bind_some],fun h=>by cases h⟩
    ·by_cases h5:(60:Int)<ko.size
     ·exact⟨false,by simp only[h1,h2,h3,h4,h5,decide_true,decide_false,cond_true,cond_false,Option.bind_some],fun h=>by cases h⟩
     ·by_cases h6:mk.size≤40∧mr.size≤40
      ·by_cases h7:(10:Int)<ns.length
       ·exact⟨false,by simp only[h1,h2,h3,h4,h5,h6,h7,and_self,decide_true,decide_false,Bool.not_true,cond_true,cond_false,Option.bind_some],fun h=>by cases h⟩
       ·simp only[h1,h2,h3,h4,h5,h6,h7,and_self,decide_true,decide_false,Bool.not_true,cond_true,cond_false,Option.bind_some];refine Qd7 ns (fun x=>x.size≤60) (fun b:Bool ⊕ Unit=>b=.inl false∨(b=.inr ()∧∀x∈ns,x.size≤60)) (by omega) ?_ ?_ ?_
        ·intro i x hi hx;simp(disch:=omega)only[Zw,Zd,Int.toNat_natCast,getD_some hx,Zv];by_cases h8:(60:Int)<x.size
         ·exact⟨_,by simp only[h8,decide_true,cond_true],.inr ⟨_,rfl,.inl rfl⟩⟩
         ·exact⟨_,by simp only[h8,decide_false,cond_false],.inl ⟨rfl,by omega⟩⟩
        ·intro h;exact⟨_,by simp(disch:=omega)only[Zz],.inr ⟨rfl,h⟩⟩
        ·rintro b (rfl|⟨rfl,h⟩)
         ·exact⟨false,rfl,fun h=>by cases h⟩
         ·exact⟨true,rfl,fun _=>⟨by show at'.size≤60;omega,by show c.size≤60;omega,by show g.size≤60;omega,by show ko.size≤60;omega,by show ns.length≤10;omega,h⟩⟩
      ·exact⟨false,by simp only[h1,h2,h3,h4,h5,h6,decide_true,decide_false,Bool.not_false,cond_true,cond_false,Option.bind_some],fun h=>by cases h⟩
theorem Qyd(b:ByteArray):(b==b)=true:=by
 cases b with
 |mk d=>show(d==d)=true;simp
theorem l74{F:Nat}{l:List Zt}(hF:l.length<F)(hl:l.length≤100000):c74 F (l,l)=some true:=by
 unfold c74;simp only[tE,decide_true,Bool.not_true,cond_false];refine Jq l (fun(_:Unit) i=>(i:Int)) (fun _ _=>(.inl ():Unit ⊕ (Bool ⊕ Unit))) (fun _=>.inr ()) (fun _ _=>True) () hF rfl trivial ?_ ?_ ?_
 ·intro i x _ hi hx _;refine⟨?_,fun _ _=>trivial⟩;simp(disch:=omega)only[Zw,Zd,Int.toNat_natCast,getD_some hx,Zv,Qyd,decide_true,beq_self_eq_true,Bool.and_self,Bool.not_true,cond_false];rfl
 ·intro _ _;simp(disch:=omega)only[Zz]
 ·rw[Qhh];rfl
theorem l76{F:Nat}(hF4:400≤F){l:List Tm}(hF:l.length<F)(hl:l.length≤100000)(hr:∀x∈l,x.2.2.length≤300):c76 F (l,l)=some true:=by
 have hd:(ByteArray.empty,ByteArray.empty,Qa ByteArray)=dT:=rfl;unfold c76;simp only[hd,decide_true,Bool.not_true,cond_false];refine Jq l (fun(_:Unit) i=>(i:Int)) (fun _ _=>(.inl ():Unit ⊕ (Bool ⊕ Unit))) (fun _=>.inr ()) (fun _ _=>True) () hF rfl trivial ?_ ?_ ?_
 ·intro i x _ hi hx _;refine⟨?_,fun _ _=>trivial⟩;have hn:=hr x (List.mem_of_getElem? hx);simp(disch:=omega)only[Zw,Zd,Int.toNat_natCast,getD_some hx,Zv,Ks,l44 (F:=F) (l:=x.2.2) (by omega) (by omega),Option.bind_some,Bool.not_true,cond_false];rfl
 ·intro _ _;simp(disch:=omega)only[Zz]
 ·rw[Qhh];rfl
end Go.Proofs.Tryz
