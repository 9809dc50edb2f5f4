/- The reference's Next: the kinds,joined. awake, CheckAct, lists, Legal and Next of both. And further parts. -/
import Derived.Test.YtpkbmngnolhopaaGreatDoorXTeK62
import Derived.Test.YtpkbmngnolhopaaGreatDoorXTeA
import Derived.Test.YtpkbmngnolhopaaGreatDoorXT3u
set_option maxRecDepth 100000
set_option linter.unusedVariables false
set_option linter.all false
set_option linter.unusedSimpArgs false
open Option renaming bind_some->o
open Bool renaming not_false->C,false_eq_true->I,not_true->J
namespace Go.Proofs.Tryz
open Go Go.Sx
abbrev K2:List Qe:=Qao
abbrev Vm:List Qe:=V6
theorem Qc5{k:ByteArray}{c:(Qm)×Int×Yn->Option (Qt Vm)}{lx:Lx}{an:Zi}(hl:lx.Ok cx)(he:∀b,Z6 cx lx 1000 an f62 (Qs f62) K2 Vm (b.1,b.2.1,k,b.2.2)=c b):Qg cx 62 {ats:=K2,rts:=Vm,code:=fun a=>bif Qc a.2.2.1 k then c (a.1,a.2.1,a.2.2.2)else none}:=
 Qg.Yg Yh hl (n:=1000) (an:=an) (fn:=f62) (c:=Qs f62) (by kernel_rfl) (by kernel_rfl) (fun a y h=>by
  obtain⟨s,d,q,r⟩:=a;have h:(bif Qc q k then c (s,d,r)else none)=some y:=h;cases e:Qc q k with
  |false=>rw[e]at h;cases h
  |true=>rw[e]at h;obtain rfl:=Qqh _ _ e;exact(he (s,d,r)).trans h) (by kernel_rfl)
theorem Ze3(F:Nat):Qg cx 62 {ats:=K2,rts:=Vm,code:=fun a=>bif Qc a.2.2.1 Qka then Qia F (a.1,a.2.1,a.2.2.2)else none}:=Qc5 (Ze8 F).ok (Zsn F)
theorem Zq8(F:Nat):Qg cx 62 {ats:=K2,rts:=Vm,code:=fun a=>bif Qc a.2.2.1 Qmb then Qg5 F (a.1,a.2.1,a.2.2.2)else none}:=Qc5 (Zja F).ok (Yh1 F)
theorem Zwx(F:Nat):Qg cx 62 {ats:=K2,rts:=Vm,code:=fun a=>bif Qc a.2.2.1 Qkh then Qjf F (a.1,a.2.1,a.2.2.2)else none}:=Qc5 (Zh4 F).ok (Zro F)
theorem Zmz(F:Nat):Qg cx 62 {ats:=K2,rts:=Vm,code:=fun a=>bif Qc a.2.2.1 Qlm then Qgm F (a.1,a.2.1,a.2.2.2)else none}:=Qc5 (Zlo F).ok (Zto F)
theorem Yfq(F:Nat):Qg cx 62 {ats:=K2,rts:=Vm,code:=fun a=>bif Qc a.2.2.1 Qlf then Qhk F (a.1,a.2.1,a.2.2.2)else none}:=Qc5 (Zjb F).ok (Zoj F)
theorem Zny(F:Nat):Qg cx 62 {ats:=K2,rts:=Vm,code:=fun a=>bif Qc a.2.2.1 Qmn then Qg8 F (a.1,a.2.1,a.2.2.2)else none}:=Qc5 (Zbq F).ok (Zof F)
theorem Zrd(F:Nat):Qg cx 62 {ats:=K2,rts:=Vm,code:=fun a=>bif Qc a.2.2.1 Qlh then Qhd F (a.1,a.2.1,a.2.2.2)else none}:=Qc5 (Zf4 F).ok (Yl7 F)
theorem Ycp(F:Nat):Qg cx 62 {ats:=K2,rts:=Vm,code:=fun a=>bif Qc a.2.2.1 Qlt then Qhn F (a.1,a.2.1,a.2.2.2)else none}:=Qc5 (Zei F).ok (Zm4 F)
theorem Zss(F:Nat):Qg cx 62 {ats:=K2,rts:=Vm,code:=fun a=>none}:=⟨(Ze3 F).fn,fun a y h=>absurd (show(none:Option (Qt Vm))=some y from h) (by simp)⟩
noncomputable def c62(F:Nat)(a:(Qm)×(Q4)):Option ((Qm)):=
 bif Qc a.2.2.1 Qka then Qia F (a.1,a.2.1,a.2.2.2)else bif Qc a.2.2.1 Qmb then Qg5 F (a.1,a.2.1,a.2.2.2)else bif Qc a.2.2.1 Qkh then Qjf F (a.1,a.2.1,a.2.2.2)else bif Qc a.2.2.1 Qlm then Qgm F (a.1,a.2.1,a.2.2.2)else bif Qc a.2.2.1 Qlf then Qhk F (a.1,a.2.1,a.2.2.2)else bif Qc a.2.2.1 Qmn then Qg8 F (a.1,a.2.1,a.2.2.2)else bif Qc a.2.2.1 Qlh then Qhd F (a.1,a.2.1,a.2.2.2)else bif Qc a.2.2.1 Qlt then Qhn F (a.1,a.2.1,a.2.2.2)else none
noncomputable def Ymh(F:Nat):PC:={ats:=K2,rts:=Vm,code:=c62 F}
theorem Zoq(F:Nat):Qg cx 62 (Ymh F):=(Qg.cases (Ze3 F) (Qg.cases (Zq8 F) (Qg.cases (Zwx F) (Qg.cases (Zmz F) (Qg.cases (Yfq F) (Qg.cases (Zny F) (Qg.cases (Zrd F) (Qg.cases (Ycp F) (Zss F)))))))))
end Go.Proofs.Tryz
section

end
section
namespace Go.Proofs.Tryz
open Go Go.Sx
end Go.Proofs.Tryz
end
section

end
namespace Go.Proofs.Tryz
open Go Go.Sx
theorem Qlq{α:Type}(l:List α):Qa α++l=l:=rfl
theorem Qd1(y:Qh):Qt.eqv (Qe.agg Zn::Qa Qe) y y=true:=Qt.eqv_rf (Qe.agg Zn::Qa Qe) y
theorem Yd4{F:Nat}{l:List Tm}(h:l.length<=1000):Qg6 F l=some l:=by
 have h1:l.length*56<=140737488355328:=by omega
 have h2:l.length<=9223372036854775807:=by omega
 unfold Qg6;simp only[Qlq,h1,h2,decide_true,Zb,o];by_cases h0:l.length=0
 ·obtain rfl:=List.eq_nil_of_length_eq_zero h0;rfl
 ·simp only[h0,decide_false,cond_false]
theorem Yir{F:Nat}(hF:700<=F){m:Mt}(hm:m.2.2.2.2.length<=300){s:Qh}(h:Zh s){b:Q0}(hv:Z9 m=0)(ha:Zy b):Js F (m,s,b.1,Yz,b.2)=some (Qaz s b):=by have f_club:Qc Yz YJ=true:=rfl;unfold Js;simp only[Za,f_club,cond_true,cond_false,Yox (show 400<=F by omega) h,o,Zb]
theorem Yal{F:Nat}(hF:700<=F){m:Mt}(hm:m.2.2.2.2.length<=300){s:Qh}(h:Zh s){b:Q0}(hv:Z9 m=0)(ha:Zy b):c60 F (m,s,b.1,Yz,b.2)=some (Qaz s b):=by have f_enter:Qc Yz YE=false:=rfl;have f_team:Qc Yz YI=false:=rfl;have f_withdraw:Qc Yz YB=false:=rfl;have f_check:Qc Yz YH=false:=rfl;have g_club:Qc Yz Yz=true:=rfl;have g_athlete:Qc Yz Yv=false:=rfl;have g_transfer:Qc Yz Yo=false:=rfl;unfold c60;simp only[Za,f_enter,f_team,f_withdraw,f_check,C,cond_true,cond_false,o,Qrn (show 400<=F by omega) h,g_club,g_athlete,g_transfer,I,if_true,if_false]
theorem Zqr{F:Nat}(hF:700<=F){m:Mt}(hm:m.2.2.2.2.length<=300){s:Qh}(h:Zh s){b:Q0}(hv:Z9 m=0)(ha:Zy b):Js F (m,s,b.1,Yv,b.2)=some (Qan s b):=by have f_club:Qc Yv YJ=false:=rfl;have f_athlete:Qc Yv YF=true:=rfl;unfold Js;simp only[Za,f_club,f_athlete,cond_true,cond_false,Zzs (show 400<=F by omega) h,o,Zb]
theorem Ypl{F:Nat}(hF:700<=F){m:Mt}(hm:m.2.2.2.2.length<=300){s:Qh}(h:Zh s){b:Q0}(hv:Z9 m=0)(ha:Zy b):c60 F (m,s,b.1,Yv,b.2)=some (Qan s b):=by have f_enter:Qc Yv YE=false:=rfl;have f_team:Qc Yv YI=false:=rfl;have f_withdraw:Qc Yv YB=false:=rfl;have f_check:Qc Yv YH=false:=rfl;have g_club:Qc Yv Yz=false:=rfl;have g_athlete:Qc Yv Yv=true:=rfl;have g_transfer:Qc Yv Yo=false:=rfl;unfold c60;simp only[Za,f_enter,f_team,f_withdraw,f_check,C,cond_true,cond_false,o,Qrn (show 400<=F by omega) h,g_club,g_athlete,g_transfer,I,if_true,if_false]
theorem Yac{F:Nat}(hF:700<=F){m:Mt}(hm:m.2.2.2.2.length<=300){s:Qh}(h:Zh s){b:Q0}(hv:Z9 m=0)(ha:Zy b):Js F (m,s,b.1,Y9,b.2)=some (Qat s b):=by have f_club:Qc Y9 YJ=false:=rfl;have f_athlete:Qc Y9 YF=false:=rfl;have f_licence:Qc Y9 YG=true:=rfl;unfold Js;simp only[Za,f_club,f_athlete,f_licence,cond_true,cond_false,Zwr (show 400<=F by omega) h,o,Zb]
theorem Yrl{F:Nat}(hF:700<=F){m:Mt}(hm:m.2.2.2.2.length<=300){s:Qh}(h:Zh s){b:Q0}(hv:Z9 m=0)(ha:Zy b):c60 F (m,s,b.1,Y9,b.2)=some (Qat s b):=by have f_enter:Qc Y9 YE=false:=rfl;have f_team:Qc Y9 YI=false:=rfl;have f_withdraw:Qc Y9 YB=false:=rfl;have f_check:Qc Y9 YH=false:=rfl;have g_club:Qc Y9 Yz=false:=rfl;have g_athlete:Qc Y9 Yv=false:=rfl;have g_transfer:Qc Y9 Yo=false:=rfl;unfold c60;simp only[Za,f_enter,f_team,f_withdraw,f_check,C,cond_true,cond_false,o,Qrn (show 400<=F by omega) h,g_club,g_athlete,g_transfer,I,if_true,if_false]
theorem Ybp{F:Nat}(hF:700<=F){m:Mt}(hm:m.2.2.2.2.length<=300){s:Qh}(h:Zh s){b:Q0}(hv:Z9 m=0)(ha:Zy b):Js F (m,s,b.1,Yo,b.2)=some (K1 s b):=by have f_club:Qc Yo YJ=false:=rfl;have f_athlete:Qc Yo YF=false:=rfl;have f_licence:Qc Yo YG=false:=rfl;have f_transfer:Qc Yo YD=true:=rfl;unfold Js;simp only[Za,f_club,f_athlete,f_licence,f_transfer,cond_true,cond_false,Yg9 (show 400<=F by omega) h,o,Zb]
theorem Yjp{F:Nat}(hF:700<=F){m:Mt}(hm:m.2.2.2.2.length<=300){s:Qh}(h:Zh s){b:Q0}(hv:Z9 m=0)(ha:Zy b):c60 F (m,s,b.1,Yo,b.2)=some (K1 s b):=by have f_enter:Qc Yo YE=false:=rfl;have f_team:Qc Yo YI=false:=rfl;have f_withdraw:Qc Yo YB=false:=rfl;have f_check:Qc Yo YH=false:=rfl;have g_club:Qc Yo Yz=false:=rfl;have g_athlete:Qc Yo Yv=false:=rfl;have g_transfer:Qc Yo Yo=true:=rfl;unfold c60;simp only[Za,f_enter,f_team,f_withdraw,f_check,C,cond_true,cond_false,o,Qrn (show 400<=F by omega) h,g_club,g_athlete,g_transfer,I,if_true,if_false]
theorem Zv3{F:Nat}(hF:700<=F){m:Mt}(hm:m.2.2.2.2.length<=300){s:Qh}(h:Zh s){b:Q0}(hv:Z9 m=0)(ha:Zy b)(hk:Jn (U4 b)):Js F (m,s,b.1,Xa,b.2)=some (Qa6 m s b):=by have f_club:Qc Xa YJ=false:=rfl;have f_athlete:Qc Xa YF=false:=rfl;have f_licence:Qc Xa YG=false:=rfl;have f_transfer:Qc Xa YD=false:=rfl;have f_enter:Qc Xa YE=true:=rfl;unfold Js;simp only[Za,f_club,f_athlete,f_licence,f_transfer,f_enter,cond_true,cond_false,Zpe hF hm h _ hv hk,o,Zb]
theorem Zzg{F:Nat}(hF:700<=F){m:Mt}(hm:m.2.2.2.2.length<=300){s:Qh}(h:Zh s){b:Q0}(hv:Z9 m=0)(ha:Zy b)(hk:Jn (U4 b)):c60 F (m,s,b.1,Xa,b.2)=some (Qa6 m s b):=by have f_enter:Qc Xa YE=true:=rfl;have f_team:Qc Xa YI=false:=rfl;have f_withdraw:Qc Xa YB=false:=rfl;have f_check:Qc Xa YH=false:=rfl;unfold c60;simp only[Za,f_enter,cond_true,cond_false,o,Yq1 hF hm h _ hv hk]
theorem Yj4{F:Nat}(hF:700<=F){m:Mt}(hm:m.2.2.2.2.length<=300){s:Qh}(h:Zh s){b:Q0}(hv:Z9 m=0)(ha:Zy b):Js F (m,s,b.1,Xf,b.2)=some (Uq m s b):=by have f_club:Qc Xf YJ=false:=rfl;have f_athlete:Qc Xf YF=false:=rfl;have f_licence:Qc Xf YG=false:=rfl;have f_transfer:Qc Xf YD=false:=rfl;have f_enter:Qc Xf YE=false:=rfl;have f_withdraw:Qc Xf YB=true:=rfl;unfold Js;simp only[Za,f_club,f_athlete,f_licence,f_transfer,f_enter,f_withdraw,cond_true,cond_false,Ygk (show 400<=F by omega) h,o,Zb]
theorem Zpc{F:Nat}(hF:700<=F){m:Mt}(hm:m.2.2.2.2.length<=300){s:Qh}(h:Zh s){b:Q0}(hv:Z9 m=0)(ha:Zy b):c60 F (m,s,b.1,Xf,b.2)=some (Uq m s b):=by have f_enter:Qc Xf YE=false:=rfl;have f_team:Qc Xf YI=false:=rfl;have f_withdraw:Qc Xf YB=true:=rfl;have f_check:Qc Xf YH=false:=rfl;unfold c60 Uq;simp only[Za,f_enter,f_team,f_withdraw,f_check,J,C,cond_true,cond_false,o,l53 (show 400<=F by omega) h];by_cases p1:eI s b.2.1 b.2.2.2.2.1<0<;>by_cases p2:m.1<b.1<;>simp[p1,p2]
theorem Yhm{F:Nat}(hF:700<=F){m:Mt}(hm:m.2.2.2.2.length<=300){s:Qh}(h:Zh s){b:Q0}(hv:Z9 m=0)(ha:Zy b):Js F (m,s,b.1,Xb,b.2)=some (Uy m s b):=by have f_club:Qc Xb YJ=false:=rfl;have f_athlete:Qc Xb YF=false:=rfl;have f_licence:Qc Xb YG=false:=rfl;have f_transfer:Qc Xb YD=false:=rfl;have f_enter:Qc Xb YE=false:=rfl;have f_withdraw:Qc Xb YB=false:=rfl;have f_check:Qc Xb YH=true:=rfl;unfold Js;simp only[Za,f_club,f_athlete,f_licence,f_transfer,f_enter,f_withdraw,f_check,cond_true,cond_false,Zp3 (show 400<=F by omega) h,o,Zb]
theorem Znp{F:Nat}(hF:700<=F){m:Mt}(hm:m.2.2.2.2.length<=300){s:Qh}(h:Zh s){b:Q0}(hv:Z9 m=0)(ha:Zy b):c60 F (m,s,b.1,Xb,b.2)=some (Uy m s b):=by
 have f_enter:Qc Xb YE=false:=rfl;have f_team:Qc Xb YI=false:=rfl;have f_withdraw:Qc Xb YB=false:=rfl;have f_check:Qc Xb YH=true:=rfl;unfold c60 Uy Vn;simp only[Za,tE,f_enter,f_team,f_withdraw,f_check,J,C,cond_true,cond_false,o,l53 (show 400<=F by omega) h];by_cases p1:eI s b.2.1 b.2.2.2.2.1<0
 ·simp[p1]
 ·obtain⟨j,y,j1,j2,-,-⟩:=Wf (p:=eP b.2.1 b.2.2.2.2.1) (l:=s.2.2.2.1) (show 0<=eI s b.2.1 b.2.2.2.2.1 by omega);have j1':eI s b.2.1 b.2.2.2.2.1=(j:Int):=j1;have hnn:¬((j:Nat):Int)<0:=by omega
  simp(disch:=omega)only[j1',hnn,decide_false,cond_false,if_false,Ze,Int.toNat_natCast];cases(s.2.2.2.1.getD j dE).2.2.2.2.2.2<;>by_cases p2:b.1=m.1<;>simp[p2]
theorem Yo9{F:Nat}(hF:700<=F){m:Mt}(hm:m.2.2.2.2.length<=300){s:Qh}(h:Zh s){b:Q0}(hv:Z9 m=0)(ha:Zy b):Js F (m,s,b.1,Y8,b.2)=some (Qbe m s b):=by have f_club:Qc Y8 YJ=false:=rfl;have f_athlete:Qc Y8 YF=false:=rfl;have f_licence:Qc Y8 YG=false:=rfl;have f_transfer:Qc Y8 YD=false:=rfl;have f_enter:Qc Y8 YE=false:=rfl;have f_withdraw:Qc Y8 YB=false:=rfl;have f_check:Qc Y8 YH=false:=rfl;have f_team:Qc Y8 YI=true:=rfl;unfold Js;simp only[Za,f_club,f_athlete,f_licence,f_transfer,f_enter,f_withdraw,f_check,f_team,cond_true,cond_false,Yjf hF hm h _ ha.n,o,Zb]
theorem Zpy{F:Nat}(hF:700<=F){m:Mt}(hm:m.2.2.2.2.length<=300){s:Qh}(h:Zh s){b:Q0}(hv:Z9 m=0)(ha:Zy b):c60 F (m,s,b.1,Y8,b.2)=some (Qbe m s b):=by have f_enter:Qc Y8 YE=false:=rfl;have f_team:Qc Y8 YI=true:=rfl;have f_withdraw:Qc Y8 YB=false:=rfl;have f_check:Qc Y8 YH=false:=rfl;unfold c60;simp only[Za,f_enter,f_team,cond_true,cond_false,o,Zqw hF hm h _ ha.n]
end Go.Proofs.Tryz
