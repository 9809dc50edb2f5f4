/- The reference's Next: the kinds,joined. awake, CheckAct, lists, Legal and Next of both. And further parts. -/
import Derived.Test.YtpkbmngnolhopaaGreatDoorXTeK62
import Derived.Test.YtpkbmngnolhopaaGreatDoorXTeA
import Derived.Test.YtpkbmngnolhopaaGreatDoorXT3u
set_option maxRecDepth 100000
set_option linter.unusedVariables false
set_option linter.all false
set_option linter.unusedSimpArgs false
open Option renaming bind_some->o
open Bool renaming not_false->C,false_eq_true->I,not_true->J
namespace Go.Proofs.Tryz
open Go Go.Sx
abbrev Kv:List Qe:=Qa3
abbrev Vj:List Qe:=Ki
theorem Qcv{k:ByteArray}{c:(Ql)×Int×Yl->Option (Qt Vj)}{lx:Lx}{an:Zg}(hl:lx.Ok cx)(he:∀b,Z2 cx lx 1000 an f62 (Qs f62) Kv Vj (b.1,b.2.1,k,b.2.2)=c b):Qg cx 62 {ats:=Kv,rts:=Vj,code:=fun a=>bif Qc a.2.2.1 k then c (a.1,a.2.1,a.2.2.2)else none}:=
 Qg.Yc Yd hl (n:=1000) (an:=an) (fn:=f62) (c:=Qs f62) (by kernel_rfl) (by kernel_rfl) (fun a y h=>by
  obtain⟨s,d,q,r⟩:=a;have h:(bif Qc q k then c (s,d,r)else none)=some y:=h;cases e:Qc q k with
  |false=>rw[e]at h;cases h
  |true=>rw[e]at h;obtain rfl:=Qn5 _ _ e;exact(he (s,d,r)).trans h) (by kernel_rfl)
theorem Zbb(F:Nat):Qg cx 62 {ats:=Kv,rts:=Vj,code:=fun a=>bif Qc a.2.2.1 Qku then Qh0 F (a.1,a.2.1,a.2.2.2)else none}:=Qcv (Zja F).ok (Zx1 F)
theorem Zoz(F:Nat):Qg cx 62 {ats:=Kv,rts:=Vj,code:=fun a=>bif Qc a.2.2.1 Qmj then Qhq F (a.1,a.2.1,a.2.2.2)else none}:=Qcv (Zhb F).ok (Ykd F)
theorem Ybb(F:Nat):Qg cx 62 {ats:=Kv,rts:=Vj,code:=fun a=>bif Qc a.2.2.1 Qjx then Qif F (a.1,a.2.1,a.2.2.2)else none}:=Qcv (Zas F).ok (Yrr F)
theorem Zre(F:Nat):Qg cx 62 {ats:=Kv,rts:=Vj,code:=fun a=>bif Qc a.2.2.1 Qjy then Qgy F (a.1,a.2.1,a.2.2.2)else none}:=Qcv (Zla F).ok (Yew F)
theorem Ymv(F:Nat):Qg cx 62 {ats:=Kv,rts:=Vj,code:=fun a=>bif Qc a.2.2.1 Qjn then Qg4 F (a.1,a.2.1,a.2.2.2)else none}:=Qcv (Za8 F).ok (Zyi F)
theorem Yrv(F:Nat):Qg cx 62 {ats:=Kv,rts:=Vj,code:=fun a=>bif Qc a.2.2.1 Qms then Qiz F (a.1,a.2.1,a.2.2.2)else none}:=Qcv (Zh1 F).ok (Zyu F)
theorem Zzb(F:Nat):Qg cx 62 {ats:=Kv,rts:=Vj,code:=fun a=>bif Qc a.2.2.1 Qjr then Qgo F (a.1,a.2.1,a.2.2.2)else none}:=Qcv (Zfz F).ok (Zz7 F)
theorem Ykz(F:Nat):Qg cx 62 {ats:=Kv,rts:=Vj,code:=fun a=>bif Qc a.2.2.1 Qkj then Qh7 F (a.1,a.2.1,a.2.2.2)else none}:=Qcv (Zex F).ok (Zpb F)
theorem Yjv(F:Nat):Qg cx 62 {ats:=Kv,rts:=Vj,code:=fun a=>none}:=⟨(Zbb F).fn,fun a y h=>absurd (show(none:Option (Qt Vj))=some y from h) (by simp)⟩
noncomputable def c62(F:Nat)(a:(Ql)×(Q9)):Option ((Ql)):=
 bif Qc a.2.2.1 Qku then Qh0 F (a.1,a.2.1,a.2.2.2)else bif Qc a.2.2.1 Qmj then Qhq F (a.1,a.2.1,a.2.2.2)else bif Qc a.2.2.1 Qjx then Qif F (a.1,a.2.1,a.2.2.2)else bif Qc a.2.2.1 Qjy then Qgy F (a.1,a.2.1,a.2.2.2)else bif Qc a.2.2.1 Qjn then Qg4 F (a.1,a.2.1,a.2.2.2)else bif Qc a.2.2.1 Qms then Qiz F (a.1,a.2.1,a.2.2.2)else bif Qc a.2.2.1 Qjr then Qgo F (a.1,a.2.1,a.2.2.2)else bif Qc a.2.2.1 Qkj then Qh7 F (a.1,a.2.1,a.2.2.2)else none
noncomputable def Zuh(F:Nat):PC:={ats:=Kv,rts:=Vj,code:=c62 F}
theorem Yju(F:Nat):Qg cx 62 (Zuh F):=(Qg.cases (Zbb F) (Qg.cases (Zoz F) (Qg.cases (Ybb F) (Qg.cases (Zre F) (Qg.cases (Ymv F) (Qg.cases (Yrv F) (Qg.cases (Zzb F) (Qg.cases (Ykz F) (Yjv F)))))))))
end Go.Proofs.Tryz
section

end
section
namespace Go.Proofs.Tryz
open Go Go.Sx
end Go.Proofs.Tryz
end
section

end
namespace Go.Proofs.Tryz
open Go Go.Sx
theorem Qk2{α:Type}(l:List α):Qa α++l=l:=rfl
theorem Qdl(y:Qi):Qt.eqv (Qe.agg Zm::Qa Qe) y y=true:=Qt.eqv_rf (Qe.agg Zm::Qa Qe) y
theorem Ynz{F:Nat}{l:List Tm}(h:l.length<=1000):Qg6 F l=some l:=by
 have h1:l.length*56<=140737488355328:=by omega
 have h2:l.length<=9223372036854775807:=by omega
 unfold Qg6;simp only[Qk2,h1,h2,decide_true,Q3,o];by_cases h0:l.length=0
 ·obtain rfl:=List.eq_nil_of_length_eq_zero h0;rfl
 ·simp only[h0,decide_false,cond_false]
theorem Zq1{F:Nat}(hF:700<=F){m:Mt}(hm:m.2.2.2.2.length<=300){s:Qi}(h:Zr s){b:Q0}(hv:Z4 m=0)(ha:Zz b):Ju F (m,s,b.1,Yw,b.2)=some (Qan s b):=by have f_club:Qc Yw YJ=true:=rfl;unfold Ju;simp only[Zj,f_club,cond_true,cond_false,Ym3 (show 400<=F by omega) h,o,Q3]
theorem Zqr{F:Nat}(hF:700<=F){m:Mt}(hm:m.2.2.2.2.length<=300){s:Qi}(h:Zr s){b:Q0}(hv:Z4 m=0)(ha:Zz b):c60 F (m,s,b.1,Yw,b.2)=some (Qan s b):=by have f_enter:Qc Yw YE=false:=rfl;have f_team:Qc Yw YI=false:=rfl;have f_withdraw:Qc Yw YB=false:=rfl;have f_check:Qc Yw YH=false:=rfl;have g_club:Qc Yw Yw=true:=rfl;have g_athlete:Qc Yw Ys=false:=rfl;have g_transfer:Qc Yw Ym=false:=rfl;unfold c60;simp only[Zj,f_enter,f_team,f_withdraw,f_check,C,cond_true,cond_false,o,Qpy (show 400<=F by omega) h,g_club,g_athlete,g_transfer,I,if_true,if_false]
theorem Znb{F:Nat}(hF:700<=F){m:Mt}(hm:m.2.2.2.2.length<=300){s:Qi}(h:Zr s){b:Q0}(hv:Z4 m=0)(ha:Zz b):Ju F (m,s,b.1,Ys,b.2)=some (Qbf s b):=by have f_club:Qc Ys YJ=false:=rfl;have f_athlete:Qc Ys YF=true:=rfl;unfold Ju;simp only[Zj,f_club,f_athlete,cond_true,cond_false,Ymh (show 400<=F by omega) h,o,Q3]
theorem Zzj{F:Nat}(hF:700<=F){m:Mt}(hm:m.2.2.2.2.length<=300){s:Qi}(h:Zr s){b:Q0}(hv:Z4 m=0)(ha:Zz b):c60 F (m,s,b.1,Ys,b.2)=some (Qbf s b):=by have f_enter:Qc Ys YE=false:=rfl;have f_team:Qc Ys YI=false:=rfl;have f_withdraw:Qc Ys YB=false:=rfl;have f_check:Qc Ys YH=false:=rfl;have g_club:Qc Ys Yw=false:=rfl;have g_athlete:Qc Ys Ys=true:=rfl;have g_transfer:Qc Ys Ym=false:=rfl;unfold c60;simp only[Zj,f_enter,f_team,f_withdraw,f_check,C,cond_true,cond_false,o,Qpy (show 400<=F by omega) h,g_club,g_athlete,g_transfer,I,if_true,if_false]
theorem Zw3{F:Nat}(hF:700<=F){m:Mt}(hm:m.2.2.2.2.length<=300){s:Qi}(h:Zr s){b:Q0}(hv:Z4 m=0)(ha:Zz b):Ju F (m,s,b.1,Y9,b.2)=some (Qbc s b):=by have f_club:Qc Y9 YJ=false:=rfl;have f_athlete:Qc Y9 YF=false:=rfl;have f_licence:Qc Y9 YG=true:=rfl;unfold Ju;simp only[Zj,f_club,f_athlete,f_licence,cond_true,cond_false,Zqy (show 400<=F by omega) h,o,Q3]
theorem Zp8{F:Nat}(hF:700<=F){m:Mt}(hm:m.2.2.2.2.length<=300){s:Qi}(h:Zr s){b:Q0}(hv:Z4 m=0)(ha:Zz b):c60 F (m,s,b.1,Y9,b.2)=some (Qbc s b):=by have f_enter:Qc Y9 YE=false:=rfl;have f_team:Qc Y9 YI=false:=rfl;have f_withdraw:Qc Y9 YB=false:=rfl;have f_check:Qc Y9 YH=false:=rfl;have g_club:Qc Y9 Yw=false:=rfl;have g_athlete:Qc Y9 Ys=false:=rfl;have g_transfer:Qc Y9 Ym=false:=rfl;unfold c60;simp only[Zj,f_enter,f_team,f_withdraw,f_check,C,cond_true,cond_false,o,Qpy (show 400<=F by omega) h,g_club,g_athlete,g_transfer,I,if_true,if_false]
theorem Yly{F:Nat}(hF:700<=F){m:Mt}(hm:m.2.2.2.2.length<=300){s:Qi}(h:Zr s){b:Q0}(hv:Z4 m=0)(ha:Zz b):Ju F (m,s,b.1,Ym,b.2)=some (Kj s b):=by have f_club:Qc Ym YJ=false:=rfl;have f_athlete:Qc Ym YF=false:=rfl;have f_licence:Qc Ym YG=false:=rfl;have f_transfer:Qc Ym YD=true:=rfl;unfold Ju;simp only[Zj,f_club,f_athlete,f_licence,f_transfer,cond_true,cond_false,Zq9 (show 400<=F by omega) h,o,Q3]
theorem Znc{F:Nat}(hF:700<=F){m:Mt}(hm:m.2.2.2.2.length<=300){s:Qi}(h:Zr s){b:Q0}(hv:Z4 m=0)(ha:Zz b):c60 F (m,s,b.1,Ym,b.2)=some (Kj s b):=by have f_enter:Qc Ym YE=false:=rfl;have f_team:Qc Ym YI=false:=rfl;have f_withdraw:Qc Ym YB=false:=rfl;have f_check:Qc Ym YH=false:=rfl;have g_club:Qc Ym Yw=false:=rfl;have g_athlete:Qc Ym Ys=false:=rfl;have g_transfer:Qc Ym Ym=true:=rfl;unfold c60;simp only[Zj,f_enter,f_team,f_withdraw,f_check,C,cond_true,cond_false,o,Qpy (show 400<=F by omega) h,g_club,g_athlete,g_transfer,I,if_true,if_false]
theorem Znx{F:Nat}(hF:700<=F){m:Mt}(hm:m.2.2.2.2.length<=300){s:Qi}(h:Zr s){b:Q0}(hv:Z4 m=0)(ha:Zz b)(hk:Jp (U5 b)):Ju F (m,s,b.1,Xd,b.2)=some (Qa1 m s b):=by have f_club:Qc Xd YJ=false:=rfl;have f_athlete:Qc Xd YF=false:=rfl;have f_licence:Qc Xd YG=false:=rfl;have f_transfer:Qc Xd YD=false:=rfl;have f_enter:Qc Xd YE=true:=rfl;unfold Ju;simp only[Zj,f_club,f_athlete,f_licence,f_transfer,f_enter,cond_true,cond_false,Zqt hF hm h _ hv hk,o,Q3]
theorem Ydr{F:Nat}(hF:700<=F){m:Mt}(hm:m.2.2.2.2.length<=300){s:Qi}(h:Zr s){b:Q0}(hv:Z4 m=0)(ha:Zz b)(hk:Jp (U5 b)):c60 F (m,s,b.1,Xd,b.2)=some (Qa1 m s b):=by have f_enter:Qc Xd YE=true:=rfl;have f_team:Qc Xd YI=false:=rfl;have f_withdraw:Qc Xd YB=false:=rfl;have f_check:Qc Xd YH=false:=rfl;unfold c60;simp only[Zj,f_enter,cond_true,cond_false,o,Yae hF hm h _ hv hk]
theorem Yfr{F:Nat}(hF:700<=F){m:Mt}(hm:m.2.2.2.2.length<=300){s:Qi}(h:Zr s){b:Q0}(hv:Z4 m=0)(ha:Zz b):Ju F (m,s,b.1,Xe,b.2)=some (Ub m s b):=by have f_club:Qc Xe YJ=false:=rfl;have f_athlete:Qc Xe YF=false:=rfl;have f_licence:Qc Xe YG=false:=rfl;have f_transfer:Qc Xe YD=false:=rfl;have f_enter:Qc Xe YE=false:=rfl;have f_withdraw:Qc Xe YB=true:=rfl;unfold Ju;simp only[Zj,f_club,f_athlete,f_licence,f_transfer,f_enter,f_withdraw,cond_true,cond_false,Zui (show 400<=F by omega) h,o,Q3]
theorem Zus{F:Nat}(hF:700<=F){m:Mt}(hm:m.2.2.2.2.length<=300){s:Qi}(h:Zr s){b:Q0}(hv:Z4 m=0)(ha:Zz b):c60 F (m,s,b.1,Xe,b.2)=some (Ub m s b):=by have f_enter:Qc Xe YE=false:=rfl;have f_team:Qc Xe YI=false:=rfl;have f_withdraw:Qc Xe YB=true:=rfl;have f_check:Qc Xe YH=false:=rfl;unfold c60 Ub;simp only[Zj,f_enter,f_team,f_withdraw,f_check,J,C,cond_true,cond_false,o,l53 (show 400<=F by omega) h];by_cases p1:eI s b.2.1 b.2.2.2.2.1<0<;>by_cases p2:m.1<b.1<;>simp[p1,p2]
theorem Zog{F:Nat}(hF:700<=F){m:Mt}(hm:m.2.2.2.2.length<=300){s:Qi}(h:Zr s){b:Q0}(hv:Z4 m=0)(ha:Zz b):Ju F (m,s,b.1,Xa,b.2)=some (Ua m s b):=by have f_club:Qc Xa YJ=false:=rfl;have f_athlete:Qc Xa YF=false:=rfl;have f_licence:Qc Xa YG=false:=rfl;have f_transfer:Qc Xa YD=false:=rfl;have f_enter:Qc Xa YE=false:=rfl;have f_withdraw:Qc Xa YB=false:=rfl;have f_check:Qc Xa YH=true:=rfl;unfold Ju;simp only[Zj,f_club,f_athlete,f_licence,f_transfer,f_enter,f_withdraw,f_check,cond_true,cond_false,Zt0 (show 400<=F by omega) h,o,Q3]
theorem Zt5{F:Nat}(hF:700<=F){m:Mt}(hm:m.2.2.2.2.length<=300){s:Qi}(h:Zr s){b:Q0}(hv:Z4 m=0)(ha:Zz b):c60 F (m,s,b.1,Xa,b.2)=some (Ua m s b):=by
 have f_enter:Qc Xa YE=false:=rfl;have f_team:Qc Xa YI=false:=rfl;have f_withdraw:Qc Xa YB=false:=rfl;have f_check:Qc Xa YH=true:=rfl;unfold c60 Ua Vg;simp only[Zj,tE,f_enter,f_team,f_withdraw,f_check,J,C,cond_true,cond_false,o,l53 (show 400<=F by omega) h];by_cases p1:eI s b.2.1 b.2.2.2.2.1<0
 ·simp[p1]
 ·obtain⟨j,y,j1,j2,-,-⟩:=Wl (p:=eP b.2.1 b.2.2.2.2.1) (l:=s.2.2.2.1) (show 0<=eI s b.2.1 b.2.2.2.2.1 by omega);have j1':eI s b.2.1 b.2.2.2.2.1=(j:Int):=j1;have hnn:¬((j:Nat):Int)<0:=by omega
  simp(disch:=omega)only[j1',hnn,decide_false,cond_false,if_false,Zf,Int.toNat_natCast];cases(s.2.2.2.1.getD j dE).2.2.2.2.2.2<;>by_cases p2:b.1=m.1<;>simp[p2]
theorem Zum{F:Nat}(hF:700<=F){m:Mt}(hm:m.2.2.2.2.length<=300){s:Qi}(h:Zr s){b:Q0}(hv:Z4 m=0)(ha:Zz b):Ju F (m,s,b.1,Y7,b.2)=some (Qae m s b):=by have f_club:Qc Y7 YJ=false:=rfl;have f_athlete:Qc Y7 YF=false:=rfl;have f_licence:Qc Y7 YG=false:=rfl;have f_transfer:Qc Y7 YD=false:=rfl;have f_enter:Qc Y7 YE=false:=rfl;have f_withdraw:Qc Y7 YB=false:=rfl;have f_check:Qc Y7 YH=false:=rfl;have f_team:Qc Y7 YI=true:=rfl;unfold Ju;simp only[Zj,f_club,f_athlete,f_licence,f_transfer,f_enter,f_withdraw,f_check,f_team,cond_true,cond_false,Ya4 hF hm h _ ha.n,o,Q3]
theorem Zvv{F:Nat}(hF:700<=F){m:Mt}(hm:m.2.2.2.2.length<=300){s:Qi}(h:Zr s){b:Q0}(hv:Z4 m=0)(ha:Zz b):c60 F (m,s,b.1,Y7,b.2)=some (Qae m s b):=by have f_enter:Qc Y7 YE=false:=rfl;have f_team:Qc Y7 YI=true:=rfl;have f_withdraw:Qc Y7 YB=false:=rfl;have f_check:Qc Y7 YH=false:=rfl;unfold c60;simp only[Zj,f_enter,f_team,cond_true,cond_false,o,Yiw hF hm h _ ha.n]
end Go.Proofs.Tryz
