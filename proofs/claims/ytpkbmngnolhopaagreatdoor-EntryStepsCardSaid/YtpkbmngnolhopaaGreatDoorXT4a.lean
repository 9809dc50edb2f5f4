/- One act in a replay: the error, and the next state, of both. -/
import Derived.Test.YtpkbmngnolhopaaGreatDoorXT3z
set_option maxRecDepth 100000
set_option linter.unusedVariables false
set_option linter.unusedSimpArgs false
open Option renaming bind->j
open Bool renaming eq_false_iff->o
namespace Go.Proofs.Tryz
open Go Go.Sx
def lgA(m:Mt)(s:Qj)(a:Yk):Int:=if Qc a.2.1 Yl=true then Wx s (a.1,a.2.2)else if Qc a.2.1 Yh=true then Wy s (a.1,a.2.2)else if Qc a.2.1 Yt=true then Wp s (a.1,a.2.2)else if Qc a.2.1 Yc=true then Jm s (a.1,a.2.2)else if Qc a.2.1 Yq=true then Wq m s (a.1,a.2.2)else if Qc a.2.1 Yv=true then Jz m s (a.1,a.2.2)else if Qc a.2.1 Yr=true then J1 m s (a.1,a.2.2)else if Qc a.2.1 Yp=true then Wu m s (a.1,a.2.2)else 13
def nxA(s:Qj)(a:Yk):Qj:=if Qc a.2.1 Yl=true then Jy s (a.1,a.2.2)else if Qc a.2.1 Yh=true then Jw s (a.1,a.2.2)else if Qc a.2.1 Yt=true then J5 s (a.1,a.2.2)else if Qc a.2.1 Yc=true then Ju s (a.1,a.2.2)else if Qc a.2.1 Yq=true then Wa s (a.1,a.2.2)else if Qc a.2.1 Yv=true then Wj s (a.1,a.2.2)else if Qc a.2.1 Yr=true then J9 s (a.1,a.2.2)else if Qc a.2.1 Yp=true then Ji s (a.1,a.2.2)else s
noncomputable def mvK(F:Nat)(s:Qj)(a:Yk):Option Qj:=bif Qc a.2.1 YK then(j (Qds F ((a.1,YK,a.2.2),s)) fun(v:Qj)=>some v)else(bif Qc a.2.1 YG then(j (Qei F ((a.1,YG,a.2.2),s)) fun(v:Qj)=>some v)else(bif Qc a.2.1 YH then(j (Qdp F ((a.1,YH,a.2.2),s)) fun(v:Qj)=>some v)else(bif Qc a.2.1 YE then(j (Qc9 F ((a.1,YE,a.2.2),s)) fun(v:Qj)=>some v)else(bif Qc a.2.1 YF then(j (Qdd F ((a.1,YF,a.2.2),s)) fun(v:Qj)=>some v)else(bif Qc a.2.1 YC then(j (Qem F ((a.1,YC,a.2.2),s)) fun(v:Qj)=>some v)else(bif Qc a.2.1 YI then(j (Qee F ((a.1,YI,a.2.2),s)) fun(v:Qj)=>some v)else(gd (Qc a.2.1 YJ) (j (Qdk F ((a.1,YJ,a.2.2),s)) fun(v:Qj)=>some v))))))))
structure U1 (F:Nat) (m:Mt) (s:Qj) (a:Yk) (lg:Int) (nx:Qj):Prop where
 el:lgA m s a=lg
 en:nxA s a=nx
 p135:Je F (m,s,a)=some lg
 p60:c60 F (m,s,a)=some lg
 p62:lg=0->c62 F (s,a)=some nx
 mv:lg=0->mvK F s a=some nx
theorem Ypm{F:Nat}(hF:700<=F){m:Mt}(hm:m.2.2.2.2.length<=300){s:Qj}(hS:Za s){b:Qx}(hv:Yg m=0)(ha:Zs b):U1 F m s (b.1,Yl,b.2) (Wx s b) (Jy s b):=by
 have hF4:400<=F:=by omega
 refine⟨rfl,rfl,Zch hF hm hS hv ha,Zhh hF hm hS hv ha,fun h=>?_,fun h=>?_⟩
 ·show Qgb F (s,b)=_;exact Zlh hS b
 ·show(j (Qds F ((b.1,Yl,b.2),s)) fun(v:Qj)=>some v)=_;rw[Ziu hS Yl b];rfl
theorem Zwn{F:Nat}(hF:700<=F){m:Mt}(hm:m.2.2.2.2.length<=300){s:Qj}(hS:Za s){b:Qx}(hv:Yg m=0)(ha:Zs b):U1 F m s (b.1,Yh,b.2) (Wy s b) (Jw s b):=by
 have hF4:400<=F:=by omega
 refine⟨rfl,rfl,Zi4 hF hm hS hv ha,Zia hF hm hS hv ha,fun h=>?_,fun h=>?_⟩
 ·show Qgn F (s,b)=_;exact Zar hS b
 ·show(j (Qei F ((b.1,Yh,b.2),s)) fun(v:Qj)=>some v)=_;rw[Zen hS Yh b];rfl
theorem Zw7{F:Nat}(hF:700<=F){m:Mt}(hm:m.2.2.2.2.length<=300){s:Qj}(hS:Za s){b:Qx}(hv:Yg m=0)(ha:Zs b):U1 F m s (b.1,Yt,b.2) (Wp s b) (J5 s b):=by
 have hF4:400<=F:=by omega
 refine⟨rfl,rfl,Za6 hF hm hS hv ha,Zi9 hF hm hS hv ha,fun h=>?_,fun h=>?_⟩
 ·show Qff F (s,b)=_;exact Zj8 hS b
 ·show(j (Qdp F ((b.1,Yt,b.2),s)) fun(v:Qj)=>some v)=_;rw[Zdo hS Yt b];rfl
theorem Yj3{F:Nat}(hF:700<=F){m:Mt}(hm:m.2.2.2.2.length<=300){s:Qj}(hS:Za s){b:Qx}(hv:Yg m=0)(ha:Zs b):U1 F m s (b.1,Yc,b.2) (Jm s b) (Ju s b):=by
 have hF4:400<=F:=by omega
 have hx:Jm s b=0->0<=aI s b.2.1:=fun h=>by unfold Jm at h;split at h<;>omega
 refine⟨rfl,rfl,Zdv hF hm hS hv ha,Ze0 hF hm hS hv ha,fun h=>?_,fun h=>?_⟩
 ·show Qeq F (s,b)=_;exact Zd2 hF4 hS (hx h)
 ·show(j (Qc9 F ((b.1,Yc,b.2),s)) fun(v:Qj)=>some v)=_;rw[Zkx hF4 hS Yc (hx h)];rfl
theorem Yaz{F:Nat}(hF:700<=F){m:Mt}(hm:m.2.2.2.2.length<=300){s:Qj}(hS:Za s){b:Qx}(hv:Yg m=0)(ha:Zs b)(hk:Jn (Qad b)):U1 F m s (b.1,Yq,b.2) (Wq m s b) (Wa s b):=by
 have hF4:400<=F:=by omega
 refine⟨rfl,rfl,Zha hF hm hS hv ha hk,Zcr hF hm hS hv ha hk,fun h=>?_,fun h=>?_⟩
 ·show Qf5 F (s,b)=_;exact Zht hS b
 ·show(j (Qdd F ((b.1,Yq,b.2),s)) fun(v:Qj)=>some v)=_;rw[Zij hS Yq b];rfl
theorem Ycc{F:Nat}(hF:700<=F){m:Mt}(hm:m.2.2.2.2.length<=300){s:Qj}(hS:Za s){b:Qx}(hv:Yg m=0)(ha:Zs b):U1 F m s (b.1,Yv,b.2) (Jz m s b) (Wj s b):=by
 have hF4:400<=F:=by omega
 have hx:Jz m s b=0->0<=eI s b.2.1 b.2.2.2.2.1:=fun h=>by unfold Jz at h;split at h<;>omega
 refine⟨rfl,rfl,Zd4 hF hm hS hv ha,Zff hF hm hS hv ha,fun h=>?_,fun h=>?_⟩
 ·show Qgy F (s,b)=_;exact Zh5 hF4 hS (hx h)
 ·show(j (Qem F ((b.1,Yv,b.2),s)) fun(v:Qj)=>some v)=_;rw[Zfk hF4 hS Yv (hx h)];rfl
theorem Yed{F:Nat}(hF:700<=F){m:Mt}(hm:m.2.2.2.2.length<=300){s:Qj}(hS:Za s){b:Qx}(hv:Yg m=0)(ha:Zs b):U1 F m s (b.1,Yr,b.2) (J1 m s b) (J9 s b):=by
 have hF4:400<=F:=by omega
 have hx:J1 m s b=0->0<=eI s b.2.1 b.2.2.2.2.1:=fun h=>by unfold J1 at h;split at h<;>omega
 refine⟨rfl,rfl,Zi2 hF hm hS hv ha,Ziv hF hm hS hv ha,fun h=>?_,fun h=>?_⟩
 ·show Qf2 F (s,b)=_;exact Zlw hF4 hS (hx h)
 ·show(j (Qee F ((b.1,Yr,b.2),s)) fun(v:Qj)=>some v)=_;rw[Zc7 hF4 hS Yr (hx h)];rfl
theorem Yrr{F:Nat}(hF:700<=F){m:Mt}(hm:m.2.2.2.2.length<=300){s:Qj}(hS:Za s){b:Qx}(hv:Yg m=0)(ha:Zs b):U1 F m s (b.1,Yp,b.2) (Wu m s b) (Ji s b):=by
 have hF4:400<=F:=by omega
 refine⟨rfl,rfl,Zdk hF hm hS hv ha,Zjg hF hm hS hv ha,fun h=>?_,fun h=>?_⟩
 ·show Qe1 F (s,b)=_;exact Zkm hF4 hS ha.n
 ·show(j (Qdk F ((b.1,Yp,b.2),s)) fun(v:Qj)=>some v)=_;rw[Zax hF4 hS Yp ha.n];rfl
theorem Qt4{a:Yk}(h:Z1 a=0):a.2.1=Yl∨a.2.1=Yh∨a.2.1=Yt∨a.2.1=Yc∨a.2.1=Yq∨a.2.1=Yv∨a.2.1=Yr∨a.2.1=Yp:=by
 by_cases h0:Qc a.2.1 Yl=true
 ·exact .inl (Xr.1 h0)
 have g0:=o.2 h0;by_cases h1:Qc a.2.1 Yh=true
 ·exact .inr (.inl (Xr.1 h1))
 have g1:=o.2 h1;by_cases h2:Qc a.2.1 Yt=true
 ·exact .inr (.inr (.inl (Xr.1 h2)))
 have g2:=o.2 h2;by_cases h3:Qc a.2.1 Yc=true
 ·exact .inr (.inr (.inr (.inl (Xr.1 h3))))
 have g3:=o.2 h3;by_cases h4:Qc a.2.1 Yq=true
 ·exact .inr (.inr (.inr (.inr (.inl (Xr.1 h4)))))
 have g4:=o.2 h4;by_cases h5:Qc a.2.1 Yv=true
 ·exact .inr (.inr (.inr (.inr (.inr (.inl (Xr.1 h5))))))
 have g5:=o.2 h5;by_cases h6:Qc a.2.1 Yr=true
 ·exact .inr (.inr (.inr (.inr (.inr (.inr (.inl (Xr.1 h6)))))))
 have g6:=o.2 h6;by_cases h7:Qc a.2.1 Yp=true
 ·exact .inr (.inr (.inr (.inr (.inr (.inr (.inr (Xr.1 h7)))))))
 have g7:=o.2 h7;exfalso;have h13:Z1 a=13:=by unfold Z1;simp only[g0,g1,g2,g3,g4,g5,g6,g7,Bool.false_eq_true,if_false]
 rw[h13]at h;cases h
theorem Zr0{F:Nat}(hF:700<=F){m:Mt}(hm:m.2.2.2.2.length<=300){s:Qj}(hS:Za s){a:Yk}(hv:Yg m=0)(ha:Zs (a.1,a.2.2))(h0:Z1 a=0):U1 F m s a (lgA m s a) (nxA s a):=by
 obtain⟨d,k,r⟩:=a;have key:∀lg nx,U1 F m s (d,k,r) lg nx->U1 F m s (d,k,r) (lgA m s (d,k,r)) (nxA s (d,k,r)):=fun lg nx h=>by rw[h.el,h.en];exact h
 rcases Qt4 h0 with h|h|h|h|h|h|h|h
 ·obtain rfl:k=Yl:=h;exact key _ _ (Ypm hF hm hS (b:=(d,r)) hv ha)
 ·obtain rfl:k=Yh:=h;exact key _ _ (Zwn hF hm hS (b:=(d,r)) hv ha)
 ·obtain rfl:k=Yt:=h;exact key _ _ (Zw7 hF hm hS (b:=(d,r)) hv ha)
 ·obtain rfl:k=Yc:=h;exact key _ _ (Yj3 hF hm hS (b:=(d,r)) hv ha)
 ·obtain rfl:k=Yq:=h;exact key _ _ (Yaz hF hm hS (b:=(d,r)) hv ha (Qrr h0))
 ·obtain rfl:k=Yv:=h;exact key _ _ (Ycc hF hm hS (b:=(d,r)) hv ha)
 ·obtain rfl:k=Yr:=h;exact key _ _ (Yed hF hm hS (b:=(d,r)) hv ha)
 ·obtain rfl:k=Yp:=h;exact key _ _ (Yrr hF hm hS (b:=(d,r)) hv ha)
end Go.Proofs.Tryz
