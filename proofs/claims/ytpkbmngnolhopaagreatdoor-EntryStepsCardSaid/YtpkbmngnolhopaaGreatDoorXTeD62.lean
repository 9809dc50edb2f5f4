/- The reference's Next: the kinds,joined. awake, CheckAct, lists, Legal and Next of both. And further parts. -/
import Derived.Test.YtpkbmngnolhopaaGreatDoorXTeK62
import Derived.Test.YtpkbmngnolhopaaGreatDoorXTeA
import Derived.Test.YtpkbmngnolhopaaGreatDoorXTeK50b
import Derived.Test.YtpkbmngnolhopaaGreatDoorXT3u
set_option maxRecDepth 100000
set_option linter.unusedVariables false
set_option linter.all false
set_option linter.unusedSimpArgs false
open Option renaming bind_some->o
open Bool renaming not_false->C,false_eq_true->I,not_true->U,and_self->ZB
open Nat renaming le_trans->J,mul_le_mul_right->R,zero_add->ZA
namespace Go.Proofs.Tryz
open Go Go.Sx
abbrev K1:List Qe:=Qbe
abbrev Vq:List Qe:=Vf
theorem Qc6{k:ByteArray}{c:(Qh)×Int×Z0->Option (Qt Vq)}{lx:Lx}{an:Zb}(hl:lx.Ok cx)(he:∀b,Zp cx lx 1000 an f62 (Qo f62) K1 Vq (b.1,b.2.1,k,b.2.2)=c b):Qg cx 62 {ats:=K1,rts:=Vq,code:=fun a=>bif Qc a.2.2.1 k then c (a.1,a.2.1,a.2.2.2)else none}:=
 Qg.Z6 Z7 hl (n:=1000) (an:=an) (fn:=f62) (c:=Qo f62) (by kernel_rfl) (by kernel_rfl) (fun a y h=>by
  obtain⟨s,d,q,r⟩:=a;have h:(bif Qc q k then c (s,d,r)else none)=some y:=h;cases e:Qc q k with
  |false=>rw[e]at h;cases h
  |true=>rw[e]at h;obtain rfl:=Qmy _ _ e;exact(he (s,d,r)).trans h) (by kernel_rfl)
theorem Zes(F:Nat):Qg cx 62 {ats:=K1,rts:=Vq,code:=fun a=>bif Qc a.2.2.1 Qe8 then Qgb F (a.1,a.2.1,a.2.2.2)else none}:=Qc6 (Zf6 F).ok (Zwd F)
theorem Zog(F:Nat):Qg cx 62 {ats:=K1,rts:=Vq,code:=fun a=>bif Qc a.2.2.1 Qg5 then Qgn F (a.1,a.2.1,a.2.2.2)else none}:=Qc6 (Zf1 F).ok (Ylr F)
theorem Yj0(F:Nat):Qg cx 62 {ats:=K1,rts:=Vq,code:=fun a=>bif Qc a.2.2.1 Qgm then Qff F (a.1,a.2.1,a.2.2.2)else none}:=Qc6 (Zg5 F).ok (Yag F)
theorem Yot(F:Nat):Qg cx 62 {ats:=K1,rts:=Vq,code:=fun a=>bif Qc a.2.2.1 Qfr then Qeq F (a.1,a.2.1,a.2.2.2)else none}:=Qc6 (Zc9 F).ok (Yix F)
theorem Yol(F:Nat):Qg cx 62 {ats:=K1,rts:=Vq,code:=fun a=>bif Qc a.2.2.1 Qfz then Qf5 F (a.1,a.2.1,a.2.2.2)else none}:=Qc6 (Zgg F).ok (Zpk F)
theorem Ztg(F:Nat):Qg cx 62 {ats:=K1,rts:=Vq,code:=fun a=>bif Qc a.2.2.1 Qge then Qgy F (a.1,a.2.1,a.2.2.2)else none}:=Qc6 (Zfr F).ok (Zse F)
theorem Yi4(F:Nat):Qg cx 62 {ats:=K1,rts:=Vq,code:=fun a=>bif Qc a.2.2.1 Qgv then Qf2 F (a.1,a.2.1,a.2.2.2)else none}:=Qc6 (Zde F).ok (Yqy F)
theorem Ygh(F:Nat):Qg cx 62 {ats:=K1,rts:=Vq,code:=fun a=>bif Qc a.2.2.1 Qgx then Qe1 F (a.1,a.2.1,a.2.2.2)else none}:=Qc6 (Zgi F).ok (Yky F)
theorem Yqi(F:Nat):Qg cx 62 {ats:=K1,rts:=Vq,code:=fun a=>none}:=⟨(Zes F).fn,fun a y h=>absurd (show(none:Option (Qt Vq))=some y from h) (by simp)⟩
noncomputable def c62(F:Nat)(a:(Qh)×(Qz)):Option ((Qh)):=
 bif Qc a.2.2.1 Qe8 then Qgb F (a.1,a.2.1,a.2.2.2)else bif Qc a.2.2.1 Qg5 then Qgn F (a.1,a.2.1,a.2.2.2)else bif Qc a.2.2.1 Qgm then Qff F (a.1,a.2.1,a.2.2.2)else bif Qc a.2.2.1 Qfr then Qeq F (a.1,a.2.1,a.2.2.2)else bif Qc a.2.2.1 Qfz then Qf5 F (a.1,a.2.1,a.2.2.2)else bif Qc a.2.2.1 Qge then Qgy F (a.1,a.2.1,a.2.2.2)else bif Qc a.2.2.1 Qgv then Qf2 F (a.1,a.2.1,a.2.2.2)else bif Qc a.2.2.1 Qgx then Qe1 F (a.1,a.2.1,a.2.2.2)else none
noncomputable def Zyb(F:Nat):PC:={ats:=K1,rts:=Vq,code:=c62 F}
theorem Yqu(F:Nat):Qg cx 62 (Zyb F):=(Qg.cases (Zes F) (Qg.cases (Zog F) (Qg.cases (Yj0 F) (Qg.cases (Yot F) (Qg.cases (Yol F) (Qg.cases (Ztg F) (Qg.cases (Yi4 F) (Qg.cases (Ygh F) (Yqi F)))))))))
end Go.Proofs.Tryz
section

end
namespace Go.Proofs.Tryz
open Go Go.Sx
noncomputable def Qur(F:Nat)(a:Qh):Option (Bool):=
 (bif decide (256<(↑(a.1.length):Int))then(some (true))else(bif decide (256<(↑(a.2.1.length):Int))then(some (true))else(bif decide (256<(↑(a.2.2.1.length):Int))then(some (true))else(bif decide (256<(↑(a.2.2.2.1.length):Int))then(some (true))else(some (decide (256<(↑(a.2.2.2.2.length):Int)))))))).bind fun v5=>some (v5)
noncomputable def c61(F:Nat)(a:(Qh)×Qz):Option (Bool):=
 (c62 F (a.1,a.2.1,a.2.2.1,a.2.2.2.1,a.2.2.2.2.1,a.2.2.2.2.2.1,a.2.2.2.2.2.2.1,a.2.2.2.2.2.2.2.1,a.2.2.2.2.2.2.2.2.1,a.2.2.2.2.2.2.2.2.2.1,a.2.2.2.2.2.2.2.2.2.2.1,a.2.2.2.2.2.2.2.2.2.2.2.1,a.2.2.2.2.2.2.2.2.2.2.2.2)).bind fun v7=>(Qur F v7).bind fun v8=>some (v8)
end Go.Proofs.Tryz
section

end
namespace Go.Proofs.Tryz
open Go Go.Sx
theorem Qhx{α:Type}(l:List α):Qa α++l=l:=rfl
theorem Qbk(y:Qj):Qt.eqv (Qe.agg Ze::Qa Qe) y y=true:=Qt.eqv_rf (Qe.agg Ze::Qa Qe) y
theorem Qva{α:Type}{l:List α}{w:Nat}{r:Option (List α)}(h1:l.length*w<=140737488355328)(h2:l.length<=9223372036854775807)(e:List α->Bool)(he:e []=true):
  (bif decide (l.length = 0) then Option.bind (gd (decide ((Qa α ++ l).length * w <= 140737488355328)) (gd (decide ((Qa α ++ l).length <= 9223372036854775807)) (gd (decide (0 + (Qa α ++ l).length <= (Qa α ++ l).length)) (some (List.take (Qa α ++ l).length (List.drop 0 (Qa α ++ l))))))) (fun v=>gd (e v) (some (Qa α)))
   else gd (decide ((Qa α++l).length*w<=140737488355328)) (gd (decide ((Qa α++l).length<=9223372036854775807)) (gd (decide (0+(Qa α++l).length<=(Qa α++l).length)) (some (List.take (Qa α++l).length (List.drop 0 (Qa α++l)))))))=some l:=by
 simp only[Qhx,h1,h2,ZA,Nat.le_refl,decide_true,Zh,List.drop_zero,List.take_length,o];by_cases h0:l.length=0
 ·obtain rfl:=List.eq_nil_of_length_eq_zero h0;simp only[he,Zh,List.length_nil,decide_true,cond_true];rfl
 ·simp only[h0,decide_false,cond_false]
theorem Zv2{F:Nat}{l:List Ath}(h:l.length<=1000):Qfu F l=some l:=by unfold Qfu;exact Qva (r:=none) (J (R _ h) (by decide)) (J h (by decide)) (fun v=>Qt.eqv (Qe.val (Ty.seq kt3)::Qa Qe) (Qa Ath) v) (Qt.eqv_rf (Qe.val (Ty.seq kt3)::Qa Qe) (Qa Ath))
theorem Yll{F:Nat}{l:List Lic}(h:l.length<=1000):Qcw F l=some l:=by unfold Qcw;exact Qva (r:=none) (J (R _ h) (by decide)) (J h (by decide)) (fun v=>Qt.eqv (Qe.val (Ty.seq kt2)::Qa Qe) (Qa Lic) v) (Qt.eqv_rf (Qe.val (Ty.seq kt2)::Qa Qe) (Qa Lic))
theorem Yhh{F:Nat}{l:List Zo}(h:l.length<=1000):Qbq F l=some l:=by unfold Qbq;exact Qva (r:=none) (J (R _ h) (by decide)) (J h (by decide)) (fun v=>Qt.eqv (Qe.val (Ty.seq Zr)::Qa Qe) (Qa Zo) v) (Qt.eqv_rf (Qe.val (Ty.seq Zr)::Qa Qe) (Qa Zo))
theorem Ziq{F:Nat}{l:List Tm}(h:l.length<=1000):Qaf F l=some l:=by
 have h1:l.length*56<=140737488355328:=by omega
 have h2:l.length<=9223372036854775807:=by omega
 unfold Qaf;simp only[Qhx,h1,h2,decide_true,Zh,o];by_cases h0:l.length=0
 ·obtain rfl:=List.eq_nil_of_length_eq_zero h0;rfl
 ·simp only[h0,decide_false,cond_false]
theorem Zxl{α:Type}{step:List α×Int->Option ((List α×Int) ⊕ List α)}{l:List α}{F:Nat}(hF:l.length<F)
  (hs:∀(i:Nat),i<l.length->step (l,(i:Int))=some (.inl (l,(i:Int)+1))) (he:step (l,(l.length:Int))=some (.inr l)):Q4 step F (l,0)=some l:=by
 rw[Zhj (t:=(l,0)) l (fun(_:Unit) i=>(l,(i:Int))) (fun _ _=>.inl ()) (fun _=>l) (fun _ _=>True) ?_ ?_ (s:=()) rfl trivial hF]
 ·rw[Qir]
 ·intro i x _ hi _ _;exact⟨by rw[hs i hi];rfl,fun _ _=>trivial⟩
 ·intro _ _;exact he
theorem Zyh{α:Type}{l:List α}{i:Nat}(d:α)(hi:i<l.length):l.set i (l.getD i d)=l:=by rw[List.getD_eq_getElem?_getD,List.getElem?_eq_getElem hi];exact List.set_getElem_self hi
theorem Qc4{F:Nat}(hF:400<=F){s:Qj}(h:Za s):Ua F s=some s:=by
 have h1:=h.c;have h2:=h.a;have h3:=h.l;have h4:=h.e;have h5:=h.t;have hd:YB=dT:=rfl;unfold Ua tw;simp only[Q3,hd,Zaq (F:=F) (l:=s.1) (by omega),Zv2 (F:=F) (l:=s.2.1) (by omega),Yll (F:=F) (l:=s.2.2.1) (by omega),Yhh (F:=F) (l:=s.2.2.2.1) (by omega),Ziq (F:=F) (l:=s.2.2.2.2) (by omega),o];rw[Zxl (l:=s.2.2.2.2) (by omega)]
 ·simp only[o,ZA,Nat.le_refl,decide_true,ZB,Zh,List.drop_zero,List.take_length,Qbk]
 ·intro i hi;simp(disch:=omega)only[Zx,Zf,Int.toNat_natCast,ZA,Zv];have ht:=h.tn _ (Qll dT hi);have h16:((16:Nat):Int)*((s.2.2.2.2.getD i dT).2.2.length:Int)<=281474976710656:=by omega
  have h64:((s.2.2.2.2.getD i dT).2.2.length:Int)<=9223372036854775807:=by omega
  change gd _ (gd _ (gd (decide (0+i=0+i)) (gd (decide (0+i=0+i)) _)))=_;simp only[h16,h64,List.length_replicate,decide_true,ZB,Bool.true_and,Zh,Zyh dT hi,hi]
 ·simp(disch:=omega)only[Zz]
theorem Zch{F:Nat}(hF:700<=F){m:Mt}(hm:m.2.2.2.2.length<=300){s:Qj}(h:Za s){b:Qx}(hv:Yg m=0)(ha:Zs b):Je F (m,s,b.1,Yl,b.2)=some (Wx s b):=by have f_club:Qc Yl YK=true:=rfl;unfold Je;simp only[Q3,f_club,cond_true,cond_false,Zyl (show 400<=F by omega) h,o,Zh]
theorem Zhh{F:Nat}(hF:700<=F){m:Mt}(hm:m.2.2.2.2.length<=300){s:Qj}(h:Za s){b:Qx}(hv:Yg m=0)(ha:Zs b):c60 F (m,s,b.1,Yl,b.2)=some (Wx s b):=by have f_enter:Qc Yl YF=false:=rfl;have f_team:Qc Yl YJ=false:=rfl;have f_withdraw:Qc Yl YC=false:=rfl;have f_check:Qc Yl YI=false:=rfl;have g_club:Qc Yl Yl=true:=rfl;have g_athlete:Qc Yl Yh=false:=rfl;have g_transfer:Qc Yl Yc=false:=rfl;unfold c60;simp only[Q3,f_enter,f_team,f_withdraw,f_check,C,cond_true,cond_false,o,Qpk (show 400<=F by omega) h,g_club,g_athlete,g_transfer,I,if_true,if_false]
theorem Zi4{F:Nat}(hF:700<=F){m:Mt}(hm:m.2.2.2.2.length<=300){s:Qj}(h:Za s){b:Qx}(hv:Yg m=0)(ha:Zs b):Je F (m,s,b.1,Yh,b.2)=some (Wy s b):=by have f_club:Qc Yh YK=false:=rfl;have f_athlete:Qc Yh YG=true:=rfl;unfold Je;simp only[Q3,f_club,f_athlete,cond_true,cond_false,Zx4 (show 400<=F by omega) h,o,Zh]
theorem Zia{F:Nat}(hF:700<=F){m:Mt}(hm:m.2.2.2.2.length<=300){s:Qj}(h:Za s){b:Qx}(hv:Yg m=0)(ha:Zs b):c60 F (m,s,b.1,Yh,b.2)=some (Wy s b):=by have f_enter:Qc Yh YF=false:=rfl;have f_team:Qc Yh YJ=false:=rfl;have f_withdraw:Qc Yh YC=false:=rfl;have f_check:Qc Yh YI=false:=rfl;have g_club:Qc Yh Yl=false:=rfl;have g_athlete:Qc Yh Yh=true:=rfl;have g_transfer:Qc Yh Yc=false:=rfl;unfold c60;simp only[Q3,f_enter,f_team,f_withdraw,f_check,C,cond_true,cond_false,o,Qpk (show 400<=F by omega) h,g_club,g_athlete,g_transfer,I,if_true,if_false]
theorem Za6{F:Nat}(hF:700<=F){m:Mt}(hm:m.2.2.2.2.length<=300){s:Qj}(h:Za s){b:Qx}(hv:Yg m=0)(ha:Zs b):Je F (m,s,b.1,Yt,b.2)=some (Wp s b):=by have f_club:Qc Yt YK=false:=rfl;have f_athlete:Qc Yt YG=false:=rfl;have f_licence:Qc Yt YH=true:=rfl;unfold Je;simp only[Q3,f_club,f_athlete,f_licence,cond_true,cond_false,Yb7 (show 400<=F by omega) h,o,Zh]
theorem Zi9{F:Nat}(hF:700<=F){m:Mt}(hm:m.2.2.2.2.length<=300){s:Qj}(h:Za s){b:Qx}(hv:Yg m=0)(ha:Zs b):c60 F (m,s,b.1,Yt,b.2)=some (Wp s b):=by have f_enter:Qc Yt YF=false:=rfl;have f_team:Qc Yt YJ=false:=rfl;have f_withdraw:Qc Yt YC=false:=rfl;have f_check:Qc Yt YI=false:=rfl;have g_club:Qc Yt Yl=false:=rfl;have g_athlete:Qc Yt Yh=false:=rfl;have g_transfer:Qc Yt Yc=false:=rfl;unfold c60;simp only[Q3,f_enter,f_team,f_withdraw,f_check,C,cond_true,cond_false,o,Qpk (show 400<=F by omega) h,g_club,g_athlete,g_transfer,I,if_true,if_false]
theorem Zdv{F:Nat}(hF:700<=F){m:Mt}(hm:m.2.2.2.2.length<=300){s:Qj}(h:Za s){b:Qx}(hv:Yg m=0)(ha:Zs b):Je F (m,s,b.1,Yc,b.2)=some (Jm s b):=by have f_club:Qc Yc YK=false:=rfl;have f_athlete:Qc Yc YG=false:=rfl;have f_licence:Qc Yc YH=false:=rfl;have f_transfer:Qc Yc YE=true:=rfl;unfold Je;simp only[Q3,f_club,f_athlete,f_licence,f_transfer,cond_true,cond_false,Zo2 (show 400<=F by omega) h,o,Zh]
theorem Ze0{F:Nat}(hF:700<=F){m:Mt}(hm:m.2.2.2.2.length<=300){s:Qj}(h:Za s){b:Qx}(hv:Yg m=0)(ha:Zs b):c60 F (m,s,b.1,Yc,b.2)=some (Jm s b):=by have f_enter:Qc Yc YF=false:=rfl;have f_team:Qc Yc YJ=false:=rfl;have f_withdraw:Qc Yc YC=false:=rfl;have f_check:Qc Yc YI=false:=rfl;have g_club:Qc Yc Yl=false:=rfl;have g_athlete:Qc Yc Yh=false:=rfl;have g_transfer:Qc Yc Yc=true:=rfl;unfold c60;simp only[Q3,f_enter,f_team,f_withdraw,f_check,C,cond_true,cond_false,o,Qpk (show 400<=F by omega) h,g_club,g_athlete,g_transfer,I,if_true,if_false]
theorem Zha{F:Nat}(hF:700<=F){m:Mt}(hm:m.2.2.2.2.length<=300){s:Qj}(h:Za s){b:Qx}(hv:Yg m=0)(ha:Zs b)(hk:Jn (Qad b)):Je F (m,s,b.1,Yq,b.2)=some (Wq m s b):=by have f_club:Qc Yq YK=false:=rfl;have f_athlete:Qc Yq YG=false:=rfl;have f_licence:Qc Yq YH=false:=rfl;have f_transfer:Qc Yq YE=false:=rfl;have f_enter:Qc Yq YF=true:=rfl;unfold Je;simp only[Q3,f_club,f_athlete,f_licence,f_transfer,f_enter,cond_true,cond_false,Zqb hF hm h _ hv hk,o,Zh]
theorem Zcr{F:Nat}(hF:700<=F){m:Mt}(hm:m.2.2.2.2.length<=300){s:Qj}(h:Za s){b:Qx}(hv:Yg m=0)(ha:Zs b)(hk:Jn (Qad b)):c60 F (m,s,b.1,Yq,b.2)=some (Wq m s b):=by have f_enter:Qc Yq YF=true:=rfl;have f_team:Qc Yq YJ=false:=rfl;have f_withdraw:Qc Yq YC=false:=rfl;have f_check:Qc Yq YI=false:=rfl;unfold c60;simp only[Q3,f_enter,cond_true,cond_false,o,Ycm hF hm h _ hv hk]
theorem Zd4{F:Nat}(hF:700<=F){m:Mt}(hm:m.2.2.2.2.length<=300){s:Qj}(h:Za s){b:Qx}(hv:Yg m=0)(ha:Zs b):Je F (m,s,b.1,Yv,b.2)=some (Jz m s b):=by have f_club:Qc Yv YK=false:=rfl;have f_athlete:Qc Yv YG=false:=rfl;have f_licence:Qc Yv YH=false:=rfl;have f_transfer:Qc Yv YE=false:=rfl;have f_enter:Qc Yv YF=false:=rfl;have f_withdraw:Qc Yv YC=true:=rfl;unfold Je;simp only[Q3,f_club,f_athlete,f_licence,f_transfer,f_enter,f_withdraw,cond_true,cond_false,Yf1 (show 400<=F by omega) h,o,Zh]
theorem Zff{F:Nat}(hF:700<=F){m:Mt}(hm:m.2.2.2.2.length<=300){s:Qj}(h:Za s){b:Qx}(hv:Yg m=0)(ha:Zs b):c60 F (m,s,b.1,Yv,b.2)=some (Jz m s b):=by have f_enter:Qc Yv YF=false:=rfl;have f_team:Qc Yv YJ=false:=rfl;have f_withdraw:Qc Yv YC=true:=rfl;have f_check:Qc Yv YI=false:=rfl;unfold c60 Jz;simp only[Q3,f_enter,f_team,f_withdraw,f_check,U,C,cond_true,cond_false,o,l53 (show 400<=F by omega) h];by_cases p1:eI s b.2.1 b.2.2.2.2.1<0<;>by_cases p2:m.1<b.1<;>simp[p1,p2]
theorem Zi2{F:Nat}(hF:700<=F){m:Mt}(hm:m.2.2.2.2.length<=300){s:Qj}(h:Za s){b:Qx}(hv:Yg m=0)(ha:Zs b):Je F (m,s,b.1,Yr,b.2)=some (J1 m s b):=by have f_club:Qc Yr YK=false:=rfl;have f_athlete:Qc Yr YG=false:=rfl;have f_licence:Qc Yr YH=false:=rfl;have f_transfer:Qc Yr YE=false:=rfl;have f_enter:Qc Yr YF=false:=rfl;have f_withdraw:Qc Yr YC=false:=rfl;have f_check:Qc Yr YI=true:=rfl;unfold Je;simp only[Q3,f_club,f_athlete,f_licence,f_transfer,f_enter,f_withdraw,f_check,cond_true,cond_false,Ybk (show 400<=F by omega) h,o,Zh]
theorem Ziv{F:Nat}(hF:700<=F){m:Mt}(hm:m.2.2.2.2.length<=300){s:Qj}(h:Za s){b:Qx}(hv:Yg m=0)(ha:Zs b):c60 F (m,s,b.1,Yr,b.2)=some (J1 m s b):=by
 have f_enter:Qc Yr YF=false:=rfl;have f_team:Qc Yr YJ=false:=rfl;have f_withdraw:Qc Yr YC=false:=rfl;have f_check:Qc Yr YI=true:=rfl;unfold c60 J1 Vs;simp only[Q3,tE,f_enter,f_team,f_withdraw,f_check,U,C,cond_true,cond_false,o,l53 (show 400<=F by omega) h];by_cases p1:eI s b.2.1 b.2.2.2.2.1<0
 ·simp[p1]
 ·obtain⟨j,y,j1,j2,-,-⟩:=W1 (p:=eP b.2.1 b.2.2.2.2.1) (l:=s.2.2.2.1) (show 0<=eI s b.2.1 b.2.2.2.2.1 by omega);have j1':eI s b.2.1 b.2.2.2.2.1=(j:Int):=j1;have hnn:¬((j:Nat):Int)<0:=by omega
  simp(disch:=omega)only[j1',hnn,decide_false,cond_false,if_false,Zf,Int.toNat_natCast];cases(s.2.2.2.1.getD j dE).2.2.2.2.2.2<;>by_cases p2:b.1=m.1<;>simp[p2]
theorem Zdk{F:Nat}(hF:700<=F){m:Mt}(hm:m.2.2.2.2.length<=300){s:Qj}(h:Za s){b:Qx}(hv:Yg m=0)(ha:Zs b):Je F (m,s,b.1,Yp,b.2)=some (Wu m s b):=by have f_club:Qc Yp YK=false:=rfl;have f_athlete:Qc Yp YG=false:=rfl;have f_licence:Qc Yp YH=false:=rfl;have f_transfer:Qc Yp YE=false:=rfl;have f_enter:Qc Yp YF=false:=rfl;have f_withdraw:Qc Yp YC=false:=rfl;have f_check:Qc Yp YI=false:=rfl;have f_team:Qc Yp YJ=true:=rfl;unfold Je;simp only[Q3,f_club,f_athlete,f_licence,f_transfer,f_enter,f_withdraw,f_check,f_team,cond_true,cond_false,Yg8 hF hm h _ ha.n,o,Zh]
theorem Zjg{F:Nat}(hF:700<=F){m:Mt}(hm:m.2.2.2.2.length<=300){s:Qj}(h:Za s){b:Qx}(hv:Yg m=0)(ha:Zs b):c60 F (m,s,b.1,Yp,b.2)=some (Wu m s b):=by have f_enter:Qc Yp YF=false:=rfl;have f_team:Qc Yp YJ=true:=rfl;have f_withdraw:Qc Yp YC=false:=rfl;have f_check:Qc Yp YI=false:=rfl;unfold c60;simp only[Q3,f_enter,f_team,cond_true,cond_false,o,Yft hF hm h _ ha.n]
theorem Qde{F:Nat}(hF:700<=F){m:Mt}(hm:m.2.2.2.2.length<=300)(hb:∀x∈m.2.2.2.2,x.1.size<=300∧x.2.2.1.size<=300){s:Qj}(h:Za s){a:Yk}(ha:Zs (a.1,a.2.2)){r:Int}(hl:Yi m s=0->Z1 a=0->Je F (m,s,a)=some r):
  c49 F (m,s,a)=some (if Yi m s=0 then(if Z1 a=0 then r else Z1 a)else Yi m s):=by
 have hF4:400<=F:=by omega
 have e2:∀a b,Q2 F (a::b::Qa Int)=some (Qk [a,b]):=fun a b=>Jb hF4 (by simp[Qa]);unfold c49;simp only[Q3,l25 hF4 hm hb h,l23 hF4 ha,e2,o];by_cases h1:Yi m s=0
 ·by_cases h2:Z1 a=0
  ·simp only[h1,h2,hl h1 h2,Qk,if_true,decide_true,U,cond_false,o]
  ·simp[h1,h2,Qk]
 ·simp[h1,Qk]
end Go.Proofs.Tryz
