/- The reference's Next: the kinds,joined. awake, CheckAct, lists, Legal and Next of both. And further parts. -/
import Derived.Test.YtpkbmngnolhopaaGreatDoorXTeK62
import Derived.Test.YtpkbmngnolhopaaGreatDoorXTeA
import Derived.Test.YtpkbmngnolhopaaGreatDoorXTeK50b
import Derived.Test.YtpkbmngnolhopaaGreatDoorXTeK23b
import Derived.Test.YtpkbmngnolhopaaGreatDoorXTeB4a
import Derived.Test.YtpkbmngnolhopaaGreatDoorXT3f
import Derived.Test.YtpkbmngnolhopaaGreatDoorXT3i
set_option maxRecDepth 100000
set_option linter.unusedVariables false
set_option linter.all false
set_option linter.unusedSimpArgs false
namespace Go.Proofs.Tryz
open Go Go.Sx
noncomputable def c62(F:Nat)(a:(Qk)×(Z4)):Option ((Qk)):=
 bif Qc a.2.2.1 Qgp then Zkd F (a.1,a.2.1,a.2.2.2)else bif Qc a.2.2.1 Qe7 then Zx0 F (a.1,a.2.1,a.2.2.2)else bif Qc a.2.2.1 Qgo then Zxp F (a.1,a.2.1,a.2.2.2)else bif Qc a.2.2.1 Qep then Yhw F (a.1,a.2.1,a.2.2.2)else bif Qc a.2.2.1 Qfl then Zjc F (a.1,a.2.1,a.2.2.2)else bif Qc a.2.2.1 Qen then Qn6 F (a.1,a.2.1,a.2.2.2)else bif Qc a.2.2.1 Qgm then Zvc F (a.1,a.2.1,a.2.2.2)else bif Qc a.2.2.1 Qf3 then Ych F (a.1,a.2.1,a.2.2.2)else none
end Go.Proofs.Tryz
section

end
namespace Go.Proofs.Tryz
open Go Go.Sx
noncomputable def Qrh(F:Nat)(a:Qk):Option (Bool):=
 (bif decide (256<(↑(a.1.length):Int))then(some (true))else(bif decide (256<(↑(a.2.1.length):Int))then(some (true))else(bif decide (256<(↑(a.2.2.1.length):Int))then(some (true))else(bif decide (256<(↑(a.2.2.2.1.length):Int))then(some (true))else(some (decide (256<(↑(a.2.2.2.2.length):Int)))))))).bind fun(v5:Bool)=>some (v5)
noncomputable def c61(F:Nat)(a:(Qk)×Z4):Option (Bool):=
 (c62 F (a.1,a.2.1,a.2.2.1,a.2.2.2.1,a.2.2.2.2.1,a.2.2.2.2.2.1,a.2.2.2.2.2.2.1,a.2.2.2.2.2.2.2.1,a.2.2.2.2.2.2.2.2.1,a.2.2.2.2.2.2.2.2.2.1,a.2.2.2.2.2.2.2.2.2.2.1,a.2.2.2.2.2.2.2.2.2.2.2.1,a.2.2.2.2.2.2.2.2.2.2.2.2)).bind fun(v7:Qk)=>(Qrh F v7).bind fun(v8:Bool)=>some (v8)
end Go.Proofs.Tryz
section

end
namespace Go.Proofs.Tryz
open Go Go.Sx
theorem Qrx{α:Type}(l:List α):Qa α++l=l:=rfl
theorem Zzo(y:Qw):Qs.eqv (Qf.agg Zj::Qa Qf) y y=true:=Qs.eqv_rf (Qf.agg Zj::Qa Qf) y
theorem Qth{α:Type}{l:List α}{w:Nat}{r:Option (List α)}(h1:l.length*w≤140737488355328)(h2:l.length≤9223372036854775807)(e:List α→Bool)(he:e []=true):
  (bif decide (l.length = 0) then Option.bind (gd (decide ((Qa α ++ l).length * w ≤ 140737488355328)) (gd (decide ((Qa α ++ l).length ≤ 9223372036854775807)) (gd (decide (0 + (Qa α ++ l).length ≤ (Qa α ++ l).length)) (some (List.take (Qa α ++ l).length (List.drop 0 (Qa α ++ l))))))) (fun v=>gd (e v) (some (Qa α)))
   else gd (decide ((Qa α++l).length*w≤140737488355328)) (gd (decide ((Qa α++l).length≤9223372036854775807)) (gd (decide (0+(Qa α++l).length≤(Qa α++l).length)) (some (List.take (Qa α++l).length (List.drop 0 (Qa α++l)))))))=some l:=by
 simp only[Qrx,h1,h2,Nat.zero_add,Nat.le_refl,decide_true,Zp,List.drop_zero,List.take_length,Option.bind_some];by_cases h0:l.length=0
 ·obtain rfl:=List.eq_nil_of_length_eq_zero h0;simp only[he,Zp,List.length_nil,decide_true,cond_true];rfl
 ·simp only[h0,decide_false,cond_false]
theorem Yio{F:Nat}{l:List Ath}(h:l.length≤1000):Qcm F l=some l:=by unfold Qcm;exact Qth (r:=none) (Nat.le_trans (Nat.mul_le_mul_right _ h) (by decide)) (Nat.le_trans h (by decide)) (fun v=>Qs.eqv (Qf.val (Ty.seq Xm)::Qa Qf) (Qa Ath) v) (Qs.eqv_rf (Qf.val (Ty.seq Xm)::Qa Qf) (Qa Ath))
theorem Zqj{F:Nat}{l:List Lic}(h:l.length≤1000):Qbd F l=some l:=by unfold Qbd;exact Qth (r:=none) (Nat.le_trans (Nat.mul_le_mul_right _ h) (by decide)) (Nat.le_trans h (by decide)) (fun v=>Qs.eqv (Qf.val (Ty.seq Xp)::Qa Qf) (Qa Lic) v) (Qs.eqv_rf (Qf.val (Ty.seq Xp)::Qa Qf) (Qa Lic))
theorem Zuw{F:Nat}{l:List Qp}(h:l.length≤1000):Qam F l=some l:=by unfold Qam;exact Qth (r:=none) (Nat.le_trans (Nat.mul_le_mul_right _ h) (by decide)) (Nat.le_trans h (by decide)) (fun v=>Qs.eqv (Qf.val (Ty.seq Zn)::Qa Qf) (Qa Qp) v) (Qs.eqv_rf (Qf.val (Ty.seq Zn)::Qa Qf) (Qa Qp))
theorem Zty{F:Nat}{l:List Tm}(h:l.length≤1000):Qa4 F l=some l:=by
 have h1:l.length*56≤140737488355328:=by omega
 have h2:l.length≤9223372036854775807:=by omega
 unfold Qa4;simp only[Qrx,h1,h2,decide_true,Zp,Option.bind_some];by_cases h0:l.length=0
 ·obtain rfl:=List.eq_nil_of_length_eq_zero h0;rfl
 ·simp only[h0,decide_false,cond_false]
theorem Yck{α:Type}{step:List α×Int→Option ((List α×Int) ⊕ List α)}{l:List α}{F:Nat}(hF:l.length<F)
  (hs:∀(i:Nat),i<l.length→step (l,(i:Int))=some (.inl (l,(i:Int)+1))) (he:step (l,(l.length:Int))=some (.inr l)):Q2 step F (l,0)=some l:=by
 rw[Zg5 (t:=(l,0)) l (fun(_:Unit) i=>(l,(i:Int))) (fun _ _=>.inl ()) (fun _=>l) (fun _ _=>True) ?_ ?_ (s:=()) rfl trivial hF]
 ·rw[Qg6]
 ·intro i x _ hi _ _;exact⟨by rw[hs i hi];rfl,fun _ _=>trivial⟩
 ·intro _ _;exact he
theorem Zwb{α:Type}{l:List α}{i:Nat}(d:α)(hi:i<l.length):l.set i (l.getD i d)=l:=by rw[List.getD_eq_getElem?_getD,List.getElem?_eq_getElem hi];exact List.set_getElem_self hi
theorem Ygz{F:Nat}(hF:400≤F){s:Qw}(h:SmS s):Vv F s=some s:=by
 have h1:=h.c;have h2:=h.a;have h3:=h.l;have h4:=h.e;have h5:=h.t;have hd:(ByteArray.empty,ByteArray.empty,Qa ByteArray)=dT:=rfl;unfold Vv tw;simp only[Zu,hd,Zxt (F:=F) (l:=s.1) (by omega),Yio (F:=F) (l:=s.2.1) (by omega),Zqj (F:=F) (l:=s.2.2.1) (by omega),Zuw (F:=F) (l:=s.2.2.2.1) (by omega),Zty (F:=F) (l:=s.2.2.2.2) (by omega),Option.bind_some];rw[Yck (l:=s.2.2.2.2) (by omega)]
 ·simp only[Option.bind_some,Nat.zero_add,Nat.le_refl,decide_true,Bool.and_self,Zp,List.drop_zero,List.take_length,Zzo]
 ·intro i hi;simp(disch:=omega)only[Zy,Zv,Int.toNat_natCast,Nat.zero_add,Zo];have ht:=h.tn _ (Qe0 dT hi);have h16:((16:Nat):Int)*((s.2.2.2.2.getD i dT).2.2.length:Int)≤281474976710656:=by omega
  have h64:((s.2.2.2.2.getD i dT).2.2.length:Int)≤9223372036854775807:=by omega
  change gd _ (gd _ (gd (decide (0+i=0+i)) (gd (decide (0+i=0+i)) _)))=_;simp only[h16,h64,List.length_replicate,decide_true,Bool.and_self,Bool.true_and,Zp,Zwb dT hi,hi]
 ·simp(disch:=omega)only[Zq]
theorem Zlz{F:Nat}(hF:700≤F){m:Mt}(hm:m.2.2.2.2.length≤300){s:Qw}(h:SmS s){b:Yp}(hv:mtE m=0)(ha:ShA b):Qir F (m,s,b.1,Yz,b.2)=some (J8 m s b):=by have f_club:Qc Yz {data:=List.toArray ((99:UInt8)::(108:UInt8)::(117:UInt8)::(98:UInt8)::Qa UInt8)}=false:=rfl;have f_athlete:Qc Yz {data:=List.toArray ((97:UInt8)::(116:UInt8)::(104:UInt8)::(108:UInt8)::(101:UInt8)::(116:UInt8)::(101:UInt8)::Qa UInt8)}=false:=rfl;have f_licence:Qc Yz {data:=List.toArray ((108:UInt8)::(105:UInt8)::(99:UInt8)::(101:UInt8)::(110:UInt8)::(99:UInt8)::(101:UInt8)::Qa UInt8)}=false:=rfl;have f_transfer:Qc Yz {data:=List.toArray ((116:UInt8)::(114:UInt8)::(97:UInt8)::(110:UInt8)::(115:UInt8)::(102:UInt8)::(101:UInt8)::(114:UInt8)::Qa UInt8)}=false:=rfl;have f_enter:Qc Yz {data:=List.toArray ((101:UInt8)::(110:UInt8)::(116:UInt8)::(101:UInt8)::(114:UInt8)::Qa UInt8)}=false:=rfl;have f_withdraw:Qc Yz {data:=List.toArray ((119:UInt8)::(105:UInt8)::(116:UInt8)::(104:UInt8)::(100:UInt8)::(114:UInt8)::(97:UInt8)::(119:UInt8)::Qa UInt8)}=true:=rfl;unfold Qir;simp only[Zu,f_club,f_athlete,f_licence,f_transfer,f_enter,f_withdraw,cond_true,cond_false,Yj5 (show 400≤F by omega) h,Option.bind_some,Zp]
theorem Zib{F:Nat}(hF:700≤F){m:Mt}(hm:m.2.2.2.2.length≤300){s:Qw}(h:SmS s){b:Yp}(hv:mtE m=0)(ha:ShA b):c60 F (m,s,b.1,Yz,b.2)=some (J8 m s b):=by have f_enter:Qc Yz {data:=List.toArray ((101:UInt8)::(110:UInt8)::(116:UInt8)::(101:UInt8)::(114:UInt8)::Qa UInt8)}=false:=rfl;have f_team:Qc Yz {data:=List.toArray ((116:UInt8)::(101:UInt8)::(97:UInt8)::(109:UInt8)::Qa UInt8)}=false:=rfl;have f_withdraw:Qc Yz {data:=List.toArray ((119:UInt8)::(105:UInt8)::(116:UInt8)::(104:UInt8)::(100:UInt8)::(114:UInt8)::(97:UInt8)::(119:UInt8)::Qa UInt8)}=true:=rfl;have f_check:Qc Yz {data:=List.toArray ((99:UInt8)::(104:UInt8)::(101:UInt8)::(99:UInt8)::(107:UInt8)::Qa UInt8)}=false:=rfl;unfold c60 J8;simp only[Zu,f_enter,f_team,f_withdraw,f_check,Bool.not_true,Bool.not_false,cond_true,cond_false,Option.bind_some,l53 (show 400≤F by omega) h];by_cases p1:eI s b.2.1 b.2.2.2.2.1<0<;>by_cases p2:m.1<b.1<;>simp[p1,p2]
theorem Yec{F:Nat}(hF:700≤F){m:Mt}(hm:m.2.2.2.2.length≤300)(hb:∀x∈m.2.2.2.2,x.1.size≤300∧x.2.2.1.size≤300){s:Qw}(h:SmS s){a:Qet}(ha:ShA (a.1,a.2.2)){r:Int}(hl:Z0 m s=0→Vp a=0→Qir F (m,s,a)=some r):
  c49 F (m,s,a)=some (if Z0 m s=0 then(if Vp a=0 then r else Vp a)else Z0 m s):=by
 have hF4:400≤F:=by omega
 have e2:∀a b,Q9 F (a::b::Qa Int)=some (Qn [a,b]):=fun a b=>J1 hF4 (by simp[Qa]);unfold c49;simp only[Zu,l25 hF4 hm hb h,l23 hF4 ha,e2,Option.bind_some];by_cases h1:Z0 m s=0
 ·by_cases h2:Vp a=0
  ·simp only[h1,h2,hl h1 h2,Qn,if_true,decide_true,Bool.not_true,cond_false,Option.bind_some]
  ·simp[h1,h2,Qn]
 ·simp[h1,Qn]
theorem Zqi{F:Nat}{l:List Qp}(h:l.length≤1000):Qim F l=some l:=by
 have h1:l.length*88≤140737488355328:=by omega
 have h2:l.length≤9223372036854775807:=by omega
 unfold Qim;simp only[Qrx,h1,h2,decide_true,Zp,Option.bind_some];by_cases h0:l.length=0
 ·obtain rfl:=List.eq_nil_of_length_eq_zero h0;rfl
 ·simp only[h0,decide_false,cond_false]
def Wj(s:Qw)(b:Yp):Qw:=(s.1,s.2.1,s.2.2.1,s.2.2.2.1.take (eI s b.2.1 b.2.2.2.2.1).toNat++s.2.2.2.1.drop ((eI s b.2.1 b.2.2.2.2.1).toNat+1),s.2.2.2.2)
theorem tk{α:Type}(l:List α):List.take l.length (List.drop 0 l)=l:=by rw[List.drop_zero,List.take_length]
theorem Zcd{s:Qw}{a c:ByteArray}(h:0≤eI s a c):∃k:Nat,eI s a c=k∧k<s.2.2.2.1.length:=by obtain⟨k,y,h1,h2,h3,h4⟩:=Qbz (p:=eP a c) (l:=s.2.2.2.1) h;exact⟨k,h1,h2⟩
theorem Zgd{α:Type}{A X Y:List α}{n:Nat}(h:n≤A.length):List.take n (List.drop 0 (List.take n A++X++Y))=List.take n A:=by rw[List.drop_zero,List.append_assoc,List.take_append_of_le_length (by rw[List.length_take];omega),List.take_take,Nat.min_self]
theorem Zxf{α:Type}{L:List α}{j:Nat}(h:j<L.length):List.take (j+(L.length-(j+1))) (Jk L j (j+1) (L.length-(j+1)))=L.take j++L.drop (j+1):=by have e:(L.drop (j+1)).take (L.length-(j+1))=L.drop (j+1):=List.take_of_length_le (by rw[List.length_drop];omega);unfold Jk;rw[e];exact List.take_left' (by simp;omega)
theorem Yjs{F:Nat}(hF:400≤F){s:Qw}(h:SmS s)(k:ByteArray){b:Yp}(hx:0≤eI s b.2.1 b.2.2.2.2.1):Qnm F ((b.1,k,b.2),s)=some (Wj s b):=by
 have h1:=h.e;obtain⟨j,j1,j2⟩:=Zcd hx;have hw:w64 ((j:Int)+1)=((j+1:Nat):Int):=by rw[Zo (by omega) (by omega)];rfl
 have hne:¬((j:Nat):Int)=((j+1:Nat):Int):=by omega
 unfold Qnm Wj;simp only[Zu,Zqi (F:=F) (l:=s.2.2.2.1) (by omega),tk,Qqq hF h,tE,j1,hw,hne,Nat.zero_add,Nat.sub_zero,Int.toNat_natCast,Nat.le_refl,decide_true,decide_false,cond_false,Bool.and_self,Zp,Option.bind_some];generalize s.2.2.2.1=L at h1 j2;by_cases p1:L.length-(j+1)=0
 ·have hA:∀z:Qp,j≤(List.take j L++List.replicate (L.length-j) z++List.drop (j+(L.length-j)) L).length:=by intro z;simp;omega
  have hB:List.drop (j+1) L=[]:=List.drop_of_length_le (by omega);simp(disch:=omega)only[Zv,p1,hA,Zgd (show j≤L.length by omega),hB,List.append_nil,Nat.le_refl,decide_true,cond_true,Bool.and_self,Bool.true_and,Bool.and_true,Zp,Option.bind_some]
 ·have hm1:(Jk L j (j+1) (L.length-(j+1))).length=L.length:=Qon (by omega) (by omega);have hA:∀z:Qp,j+(L.length-(j+1))≤(List.take (j+(L.length-(j+1))) (Jk L j (j+1) (L.length-(j+1)))++List.replicate (L.length-(j+(L.length-(j+1)))) z++List.drop (j+(L.length-(j+1))+(L.length-(j+(L.length-(j+1))))) (Jk L j (j+1) (L.length-(j+1)))).length:=by intro z;simp[hm1];omega
  simp(disch:=omega)only[Zv,p1,hA,hm1,Zgd (A:=Jk L j (j+1) (L.length-(j+1))) (show j+(L.length-(j+1))≤_ by rw[hm1];omega),Nat.le_refl,decide_true,decide_false,cond_false,Bool.and_self,Bool.true_and,Bool.and_true,Zp,Option.bind_some];rw[Zxf j2]
theorem Zqb{F:Nat}(hF:400≤F){s:Qw}(h:SmS s){b:Yp}(hx:0≤eI s b.2.1 b.2.2.2.2.1):Qn6 F (s,b)=some (Wj s b):=by
 have h1:=h.e;obtain⟨j,j1,j2⟩:=Zcd hx;have hw:w64 ((j:Int)+1)=((j+1:Nat):Int):=by rw[Zo (by omega) (by omega)];rfl
 have n:∀l:List Qp,Qa Qp++l=l:=fun _=>rfl;unfold Qn6 Wj;simp only[Zu,n,tk,l53 hF h,tE,j1,hw,Nat.zero_add,Nat.sub_zero,Int.toNat_natCast,Nat.le_refl,decide_true,decide_false,cond_false,Bool.and_self,Zp,Option.bind_some];have hl1:(s.2.2.2.1.take j).length≤300:=by simp;omega
 have hl2:(s.2.2.2.1.take j++s.2.2.2.1.drop (j+1)).length≤300:=by simp;omega
 simp(disch:=omega)only[List.drop_zero,List.take_length,Zv]
abbrev atM:Qf:=.agg [.int .i64,.int .i64,.int .i64,.int .i64,.seq [.str,.str,.str,.int .i64,.int .i64,.int .i64,.int .i64,.str,.int .i64,.str,.int .i64]]
abbrev atS:Qf:=.agg [.seq Z2,.seq [.str,.str,.int .i64,.str],.seq [.str,.int .i64,.int .i64],.seq [.str,.str,.str,.int .i64,.str,.int .i64,.bool],.seq [.str,.str,.seq Z2]]
theorem okM{m:Mt}(h:Qf.ok atM m):m.2.2.2.2.length*128≤140737488355328:=by obtain⟨-,-,-,-,h,-⟩:=h;have h:m.2.2.2.2.length*128≤140737488351232:=h;omega
theorem okS{s:Qw}(h:Qf.ok atS s):ByS s:=by obtain⟨⟨h1,-⟩,⟨h2,-⟩,⟨h3,-⟩,⟨h4,-⟩,⟨h5,h6⟩⟩:=h;have h1:s.1.length*16≤140737488351232:=h1;have h2:s.2.1.length*56≤140737488351232:=h2;have h3:s.2.2.1.length*32≤140737488351232:=h3;have h4:s.2.2.2.1.length*88≤140737488351232:=h4;have h5:s.2.2.2.2.length*56≤140737488351232:=h5;refine⟨by omega,by omega,by omega,by omega,by omega,fun x hx=>?_⟩;have h7:x.2.2.length*16≤140737488351232:=(h6 x hx).2.2.1;omega
def Qf6:List Tm→Nat
 |[]=>0
 |x::l=>x.2.2.length+1+Qf6 l
theorem Zeo:∀(l:List Tm),l.length≤Qf6 l∧∀x∈l,x.2.2.length≤Qf6 l
 |[]=>⟨Nat.le_refl _,fun x hx=>(by cases hx)⟩
 |y::l=>by
  obtain⟨h1,h2⟩:=Zeo l;refine⟨by simp only[Qf6,List.length_cons];omega,fun x hx=>?_⟩;simp only[Qf6];rcases List.mem_cons.1 hx with rfl|hx
  ·omega
  ·have:=h2 x hx;omega
def Qev(m:Mt)(s:Qw):Nat:=m.2.2.2.2.length+s.1.length+s.2.1.length+s.2.2.1.length+s.2.2.2.1.length+s.2.2.2.2.length+Qf6 s.2.2.2.2+100000
theorem Zkl(m:Mt)(s:Qw):100000≤Qev m s∧m.2.2.2.2.length<Qev m s∧Qno (Qev m s) s:=by obtain⟨h1,h2⟩:=Zeo s.2.2.2.2;unfold Qev;refine⟨by omega,by omega,by omega,by omega,by omega,by omega,by omega,fun x hx=>?_⟩;have:=h2 x hx;omega
theorem MtS.bd{m:Mt}(h:MtS m):∀x∈m.2.2.2.2,x.1.size≤300∧x.2.2.1.size≤300:=fun x hx=>by have:=h.c x hx;unfold CsS at this;omega
theorem MtS.len{m:Mt}(h:MtS m):m.2.2.2.2.length≤300:=by have:=h.n;omega
theorem Yjv(b:Bool):Qs.eqv (Qf.val Ty.bool::Qa Qf) b b=true:=Qs.eqv_rf (Qf.val Ty.bool::Qa Qf) b
structure Qln (s:Qw):Prop where
 c:s.1.length≤256
 a:s.2.1.length≤256
 l:s.2.2.1.length≤256
 e:s.2.2.2.1.length≤256
 t:s.2.2.2.2.length≤256
structure Qx1 (s:Qw):Prop where
 c:s.1.length≤6
 a:s.2.1.length≤8
 l:s.2.2.1.length≤12
 e:s.2.2.2.1.length≤20
 t:s.2.2.2.2.length≤6
theorem Yf0{m:Mt}{s:Qw}(hv:Z0 m s=0)(h:ShS s):Qx1 s:=by
 have h1:=Qc5 hv;have h2:¬Jr s:=fun h=>by rw[Z0,if_pos h1,if_pos h]at hv;exact absurd hv (by decide)
 unfold Jr at h2;refine⟨?_,?_,?_,?_,?_⟩
 ·rcases h.c with q|q
  ·exact q
  ·omega
 ·rcases h.a with q|q
  ·exact q
  ·omega
 ·rcases h.l with q|q
  ·exact q
  ·omega
 ·rcases h.e with q|q
  ·exact q
  ·omega
 ·rcases h.t with q|q
  ·exact q
  ·omega
def zS:Qw:=(Qa ByteArray,Qa Ath,Qa Lic,Qa Qp,Qa Tm)
theorem Yfo(F:Nat)(s:Qw)(h:Qln s):Qrh F s=some false:=by obtain⟨h1,h2,h3,h4,h5⟩:=h;unfold Qrh;simp only[show¬(256:Int)<(s.1.length:Int)by omega,show¬(256:Int)<(s.2.1.length:Int)by omega,show¬(256:Int)<(s.2.2.1.length:Int)by omega,show¬(256:Int)<(s.2.2.2.1.length:Int)by omega,show¬(256:Int)<(s.2.2.2.2.length:Int)by omega,decide_false,cond_false,Option.bind_some]
theorem Yeb{s:Qw}(b:Yp)(h:Qx1 s):Qln (Wj s b):=by obtain⟨h1,h2,h3,h4,h5⟩:=h;unfold Wj;constructor<;>simp only[List.length_append,List.length_singleton,List.length_set,List.length_take,List.length_drop]<;>omega
def leE(m:Mt)(s:Qw)(a:Qet)(lg:Int):Int:=if Z0 m s=0 then(if Vp a=0 then lg else Vp a)else Z0 m s
structure Zl9 (F:Nat) (m:Mt) (s:Qw) (a:Qet) (lg:Int) (nx:Qw):Prop where
 p49:c49 F (m,s,a)=some (leE m s a lg)
 p50:c50 F (m,s,a)=some (if leE m s a lg=0 then(nx,0)else(zS,leE m s a lg))
 p60:Z0 m s=0→Vp a=0→c60 F (m,s,a)=some lg
 p62:leE m s a lg=0→c62 F (s,a)=some nx
 p61:leE m s a lg=0→c61 F (s,a)=some false
 len:leE m s a lg=0→Qln nx
 run:leE m s a lg=0→∀x∈nx.2.2.2.2,x.2.2.length≤300
theorem Zh9{F:Nat}(hF:700≤F){m:Mt}(hm:m.2.2.2.2.length≤300)(hb:∀x∈m.2.2.2.2,x.1.size≤300∧x.2.2.1.size≤300){s:Qw}(hH:ShS s){b:Yp}(ha:ShA b):Zl9 F m s (b.1,Yz,b.2) (J8 m s b) (Wj s b):=by
 have hF4:400≤F:=by omega
 have hl:{data:=List.toArray ((119:UInt8)::(105:UInt8)::(116:UInt8)::(104:UInt8)::(100:UInt8)::(114:UInt8)::(97:UInt8)::(119:UInt8)::Qa UInt8)}=Yz:=rfl;have e49:c49 F (m,s,b.1,Yz,b.2)=some (leE m s (b.1,Yz,b.2) (J8 m s b)):=Yec hF hm hb hH.sm ha (fun h1 h2=>Zlz hF hm hH.sm (Qc5 h1) ha);have good:leE m s (b.1,Yz,b.2) (J8 m s b)=0→Z0 m s=0∧Vp (b.1,Yz,b.2)=0∧J8 m s b=0:=fun h=>by
  unfold leE at h;by_cases h1:Z0 m s=0
  ·rw[if_pos h1]at h;by_cases h2:Vp (b.1,Yz,b.2)=0
   ·rw[if_pos h2]at h;exact⟨h1,h2,h⟩
   ·rw[if_neg h2]at h;exact absurd h h2
  ·rw[if_neg h1]at h;exact absurd h h1
 have r62:leE m s (b.1,Yz,b.2) (J8 m s b)=0→c62 F (s,b.1,Yz,b.2)=some (Wj s b):=fun h=>by
  obtain⟨h1,h2,h3⟩:=good h;have hx:0≤eI s b.2.1 b.2.2.2.2.1:=by
   unfold J8 at h3;by_cases q:eI s b.2.1 b.2.2.2.2.1<0
   ·simp[q]at h3
   ·omega
  show Qn6 F (s,b)=_;exact Zqb hF4 hH.sm hx
 have rlen:leE m s (b.1,Yz,b.2) (J8 m s b)=0→Qln (Wj s b):=fun h=>Yeb b (Yf0 (good h).1 hH);refine⟨e49,?_,fun h1 h2=>Zib hF hm hH.sm (Qc5 h1) ha,r62,fun h=>?_,rlen,fun h=>hH.sm.tn⟩
 ·show Qiw F (m,s,b)=_;unfold Qiw;simp only[Zu,hl,e49,Option.bind_some];by_cases h:leE m s (b.1,Yz,b.2) (J8 m s b)=0
  ·obtain⟨h1,h2,h3⟩:=good h;obtain⟨q1,q2,q3,q4,q5⟩:=rlen h;have hx:0≤eI s b.2.1 b.2.2.2.2.1:=by
    unfold J8 at h3;by_cases q:eI s b.2.1 b.2.2.2.2.1<0
    ·simp[q]at h3
    ·omega
   have hq:¬((((256<((Wj s b).1.length:Int)∨256<((Wj s b).2.1.length:Int))∨256<((Wj s b).2.2.1.length:Int))∨256<((Wj s b).2.2.2.1.length:Int))∨256<((Wj s b).2.2.2.2.length:Int)):=by omega
   simp only[h,decide_true,Bool.not_true,cond_false,if_true,Ygz hF4 hH.sm,Yjs hF4 hH.sm _ hx,Zcb,hq,decide_false,Option.bind_some]
  ·simp only[h,decide_false,Bool.not_false,cond_true,if_false];rfl
 ·unfold c61;simp only[Zu,r62 h,Yfo F _ (rlen h),Option.bind_some]
def drE(s:Qw)(k:Nat):Qw:=(s.1,s.2.1,s.2.2.1,s.2.2.2.1.take k++s.2.2.2.1.drop (k+1),s.2.2.2.2)
theorem Qq1(l:List Qp)(k j:Nat):(l.take k++l.drop (k+1))[j]? =if j<k then l[j]? else l[j+1]? :=by rw[←List.eraseIdx_eq_take_drop_succ,List.getElem?_eraseIdx]
theorem Zff(l:List Qp)(k:Nat):(l.take k++l.drop (k+1)).length≤l.length:=by rw[←List.eraseIdx_eq_take_drop_succ,List.length_eraseIdx];split<;>omega
def Qhq(m:Mt)(s:Qw)(x:Qp)(b:Bool):Int:=
 if aI s x.1<0∨cI m x.2.1<0 then 10 else if 0<(cAt m x.2.1).2.2.2.2.2.2.2.2.2.2 then 13
 else if b=true then 9
 else if Jf x.2.2.1 x.2.2.2.1 x.2.2.2.2.1=0 then(if Wv (cAt m x.2.1).2.1 x.2.2.1=true then(if Z7 x.2.2.2.2.2.1=true then 3 else 0)else 13)
 else Jf x.2.2.1 x.2.2.2.1 x.2.2.2.2.1
theorem Qz1{m:Mt}{s:Qw}{x:Qp}{b:Bool}(h:Qhq m s x b=0):b=false:=by
 cases b with
 |false=>rfl
 |true=>
  unfold Qhq at h;split at h
  ·omega
  ·split at h
   ·omega
   ·rw[if_pos rfl]at h;omega
theorem Qvu{m:Mt}{s:Qw}{i:Nat}{x:Qp}(hx:s.2.2.2.1[i]? =some x):Jw m s i=Qhq m s x ((s.2.2.2.1.take i).any (eP x.1 x.2.1)):=by unfold Jw Qhq;rw[getD_some hx]
theorem Zdq{m:Mt}{s:Qw}(hv:Z0 m s=0){j:Nat}{y:Qp}(hj:s.2.2.2.1[j]? =some y):(s.2.2.2.1.take j).any (eP y.1 y.2.1)=false:=by have hl:j<s.2.2.2.1.length:=(List.getElem?_eq_some_iff.1 hj).1;have h:=Qoo hv hl;rw[Qvu hj]at h;exact Qz1 h
theorem Qrq{a c:ByteArray}{y:Qp}:eP a c y=true↔y.1=a∧y.2.1=c:=by unfold eP;rw[Bool.and_eq_true,Je,Je]
theorem Qmt{m:Mt}{s:Qw}(hv:Z0 m s=0){i j:Nat}{x y:Qp}(hi:s.2.2.2.1[i]? =some x)(hj:s.2.2.2.1[j]? =some y)(hij:i<j):¬(x.1=y.1∧x.2.1=y.2.1):=by intro h;have h1:=Zdq hv hj;rw[List.any_eq_false]at h1;refine h1 x ?_ (Qrq.2 h);rw[List.mem_take_iff_getElem];obtain⟨hl,e⟩:=List.getElem?_eq_some_iff.1 hi;exact⟨i,by omega,e⟩
theorem Zae{m:Mt}{s:Qw}(hv:Z0 m s=0){j:Nat}{y:Qp}(hj:s.2.2.2.1[j]? =some y):eI s y.1 y.2.1=j:=by
 have hp:eP y.1 y.2.1 y=true:=Qrq.2 ⟨rfl,rfl⟩;have h1:=Qaz hj hp;rw[Zdq hv hj,decide_eq_false_iff_not]at h1;have h0:0≤eI s y.1 y.2.1:=by unfold eI;have:=Qo8 (eP y.1 y.2.1) s.2.2.2.1;rw[List.any_eq_true.2 ⟨y,List.mem_of_getElem? hj,hp⟩,decide_eq_true_eq]at this;exact this
 obtain⟨k,x,e,hk,hx,hpx⟩:=Qbz h0;have e':eI s y.1 y.2.1=(k:Int):=e;have h1':¬eI s y.1 y.2.1<(j:Int):=h1;by_cases hjk:j<k
 ·obtain⟨p1,p2⟩:=Qrq.1 hpx;exact absurd ⟨p1.symm,p2.symm⟩ (Qmt hv hj hx hjk)
 ·omega
theorem Qms:∀{l:List Int},(∀x∈l,x=0)→Qn l=0
 |[],_=>rfl
 |x::l,h=>by have h1:=h x (List.mem_cons_self ..);subst h1;have h2:=Qms (l:=l) fun y hy=>h y (List.mem_cons_of_mem _ hy);simpa[Qn]using h2
theorem Yja{s:Qw}{k j:Nat}{p:Qp→Bool}(h:((drE s k).2.2.2.1.take j).any p=true):(s.2.2.2.1.take (if j≤k then j else j+1)).any p=true:=by
 rw[List.any_eq_true]at h⊢;obtain⟨x,hx,hp⟩:=h;refine⟨x,?_,hp⟩;rw[List.mem_take_iff_getElem]at hx⊢;obtain⟨i,hi,e⟩:=hx;have e1:(drE s k).2.2.2.1[i]? =some x:=by rw[List.getElem?_eq_getElem (by omega),e]
 have e2:=Qq1 s.2.2.2.1 k i;have e3:(if i<k then s.2.2.2.1[i]? else s.2.2.2.1[i+1]?)=some x:=e2.symm.trans e1;by_cases hik:i<k
 ·rw[if_pos hik]at e3;obtain⟨h1,h2⟩:=List.getElem?_eq_some_iff.1 e3;refine⟨i,?_,h2⟩;split<;>omega
 ·rw[if_neg hik]at e3;obtain⟨h1,h2⟩:=List.getElem?_eq_some_iff.1 e3;refine⟨i+1,?_,h2⟩;split<;>omega
theorem Zl0{m:Mt}{s:Qw}(hv:Z0 m s=0){k:Nat}(hk:k<s.2.2.2.1.length):Z0 m (drE s k)=0:=by
 have h1:=Qc5 hv;have h2:¬Jr s:=fun h=>by rw[Z0,if_pos h1,if_pos h]at hv;exact absurd hv (by decide)
 have h3:¬Jr (drE s k):=by have:=Zff s.2.2.2.1 k;unfold Jr at h2⊢;show¬(256<s.1.length∨256<s.2.1.length∨256<s.2.2.1.length∨256<(s.2.2.2.1.take k++s.2.2.2.1.drop (k+1)).length∨256<s.2.2.2.2.length);omega
 have hv':=hv;rw[Z0,if_pos h1,if_neg h2]at hv;rw[Z0,if_pos h1,if_neg h3];have g:=U1 hv;refine Qms fun x hx=>?_;simp only[List.mem_cons,List.not_mem_nil,or_false]at hx;rcases hx with rfl|rfl|rfl|rfl|rfl
 ·exact g _ (by simp[drE])
 ·exact g _ (List.mem_cons_of_mem _ (List.mem_cons_self ..))
 ·exact g _ (List.mem_cons_of_mem _ (List.mem_cons_of_mem _ (List.mem_cons_self ..)))
 ·refine Qms fun y hy=>?_;rw[List.mem_map]at hy;obtain⟨j,hj,rfl⟩:=hy;rw[List.mem_range]at hj;have hx:(drE s k).2.2.2.1[j]? =some (drE s k).2.2.2.1[j]:=List.getElem?_eq_getElem hj;generalize (drE s k).2.2.2.1[j]=x at hx;rw[Qvu hx];have e3:(if j<k then s.2.2.2.1[j]? else s.2.2.2.1[j+1]?)=some x:=(Qq1 s.2.2.2.1 k j).symm.trans hx;have key:∀i,s.2.2.2.1[i]? =some x→(i=if j<k then j else j+1)→Qhq m (drE s k) x (((drE s k).2.2.2.1.take j).any (eP x.1 x.2.1))=0:=by
   intro i hi hij;have q1:Jw m s i=0:=Qoo hv' (List.getElem?_eq_some_iff.1 hi).1;rw[Qvu hi]at q1;have q2:=Qz1 q1;have q3:((drE s k).2.2.2.1.take j).any (eP x.1 x.2.1)=false:=by
    cases e:((drE s k).2.2.2.1.take j).any (eP x.1 x.2.1)with
    |false=>rfl
    |true=>
     have q4:=Yja e;by_cases hjk:j<k
     ·rw[if_pos hjk]at hij;subst hij;rw[if_pos (by omega),q2]at q4;exact q4.symm
     ·rw[if_neg hjk]at hij;subst hij;by_cases hjk2:j≤k
      ·rw[if_pos hjk2]at q4;rw[List.any_eq_true]at q4;obtain⟨z,hz,hp⟩:=q4;rw[List.any_eq_false]at q2;exact absurd hp (q2 z ((List.take_subset_take_left _ (by omega)) hz))
      ·rw[if_neg hjk2,q2]at q4;exact q4.symm
   rw[q3,←q2];exact q1
  by_cases hjk:j<k
  ·rw[if_pos hjk]at e3;exact key j e3 (by rw[if_pos hjk])
  ·rw[if_neg hjk]at e3;exact key (j+1) e3 (by rw[if_neg hjk])
 ·exact g _ (by simp only[List.mem_cons];exact .inr (.inr (.inr (.inr (.inl rfl)))))
theorem Zon{s:Qw}{k:Nat}{x:Qp}(h:x∈(drE s k).2.2.2.1):x∈s.2.2.2.1:=by
 rcases List.mem_append.1 h with h|h
 ·exact List.mem_of_mem_take h
 ·exact List.mem_of_mem_drop h
theorem Zzl{m:Mt}{s:Qw}(hv:Z0 m s=0)(h:ShS s)(k:Nat):ShS (drE s k):=by have h1:=Qo5 hv h;have h2:=Zff s.2.2.2.1 k;exact⟨h.c,h.a,h.l,.inl (Nat.le_trans h2 h1),h.t,h.cs,h.ats,h.ls,fun x hx=>h.es x (Zon hx),h.ts⟩
theorem Zdh{m:Mt}{s:Qw}(hv:Z0 m s=0):s.2.2.2.1.Pairwise (fun x y=>¬(x.1=y.1∧x.2.1=y.2.1)):=by rw[List.pairwise_iff_getElem];intro i j hi hj hij;exact Qmt hv (List.getElem?_eq_getElem hi) (List.getElem?_eq_getElem hj) hij
theorem Qxd{m:Mt}{s:Qw}(hv:Z0 m s=0)(c:ByteArray):(Jv s c).Pairwise (fun x y=>x.1≠y.1):=by unfold Jv;rw[List.Perm.pairwise_iff (fun h=>Ne.symm h) (Qjo (J4 s c))];unfold J4;rw[List.pairwise_filter];refine(Zdh hv).imp fun h hx hy hn=>h ⟨hn,?_⟩;rw[Je.1 hx,Je.1 hy]
theorem Qwe{s:Qw}{k:Nat}{z:Qp}(hz:s.2.2.2.1[k]? =some z):s.2.2.2.1=s.2.2.2.1.take k++z::s.2.2.2.1.drop (k+1):=by obtain⟨hl,e⟩:=List.getElem?_eq_some_iff.1 hz;rw[←e,←List.drop_eq_getElem_cons hl,List.take_append_drop]
theorem Zuv{m:Mt}{s:Qw}(hv:Z0 m s=0){k:Nat}{z:Qp}(hz:s.2.2.2.1[k]? =some z):∃L1 L2,Jv s z.2.1=L1++z::L2∧Jv (drE s k) z.2.1=L1++L2:=by
 have hm:z∈Jv s z.2.1:=by unfold Jv;rw[(Qjo _).mem_iff];unfold J4;rw[List.mem_filter];exact⟨List.mem_of_getElem? hz,Jm _⟩
 obtain⟨L1,L2,e⟩:=List.append_of_mem hm;refine⟨L1,L2,e,?_⟩;have hp:=Qxd hv z.2.1;rw[e,List.pairwise_append,List.pairwise_cons]at hp;obtain⟨u1,⟨u2,u3⟩,u4⟩:=hp;have no:∀x:Qp,x.1≠z.1→Qc x.1 z.1=false:=fun x h=>by
  cases q:Qc x.1 z.1 with
  |false=>rfl
  |true=>exact absurd (Je.1 q) h
 have f1:(Jv s z.2.1).filter (fun x=>!Qc x.1 z.1)=L1++L2:=by rw[e,List.filter_append,List.filter_cons,Jm];simp only[Bool.not_true,Bool.false_eq_true,if_false];rw[List.filter_eq_self.2 fun x hx=>by rw[no x (u4 x hx z (List.mem_cons_self ..))];rfl,List.filter_eq_self.2 fun x hx=>by rw[no x (fun h=>u2 x hx h.symm)];rfl]
 have f2:J4 (drE s k) z.2.1=(J4 s z.2.1).filter (fun x=>!Qc x.1 z.1):=by
  have hs:=Zdh hv;rw[Qwe hz,List.pairwise_append,List.pairwise_cons]at hs;obtain⟨w1,⟨w2,w3⟩,w4⟩:=hs;have g:∀l:List Qp,(∀x∈l,¬(x.1=z.1∧x.2.1=z.2.1))→l.filter (fun x=>Qc x.2.1 z.2.1)=(l.filter fun x=>Qc x.2.1 z.2.1).filter fun x=>!Qc x.1 z.1:=by
   intro l hl;rw[List.filter_filter];refine List.filter_congr fun x hx=>?_;cases q:Qc x.2.1 z.2.1 with
   |false=>simp
   |true=>rw[no x fun h=>hl x hx ⟨h,Je.1 q⟩];rfl
  have e1:J4 (drE s k) z.2.1=(s.2.2.2.1.take k++s.2.2.2.1.drop (k+1)).filter (fun x=>Qc x.2.1 z.2.1):=rfl;have e2:(J4 s z.2.1)=(s.2.2.2.1.take k++z::s.2.2.2.1.drop (k+1)).filter (fun x=>Qc x.2.1 z.2.1):=by rw[←Qwe hz];rfl
  rw[e1,e2,List.filter_append,List.filter_append,List.filter_append,List.filter_cons,Jm,if_pos rfl,List.filter_cons,Jm,←g _ fun x hx=>w4 x hx z (List.mem_cons_self ..),←g _ fun x hx h=>w2 x hx ⟨h.1.symm,h.2.symm⟩];rfl
 unfold Jv at f1⊢;rw[f2,←Yg3,f1]
theorem Yg9{m:Mt}{s:Qw}(hv:Z0 m s=0){k:Nat}{z:Qp}(hz:s.2.2.2.1[k]? =some z):
  hasB (Xu m s z.2.1).2.1 z.1=false∧(Xu m s z.2.1).2.1=(Xu m (drE s k) z.2.1).2.1∨
  hasB (Xu m s z.2.1).2.1 z.1=true∧(∀w∈(Xu m s z.2.1).2.1,w≠z.1→w∈(Xu m (drE s k) z.2.1).2.1)∧
   ∃t,t≤1∧(Xu m (drE s k) z.2.1).2.1.length+1=(Xu m s z.2.1).2.1.length+t∧(W0 (Xu m s z.2.1).2.1 (Xu m (drE s k) z.2.1).2.1).length=t:=by
 obtain⟨L1,L2,e1,e2⟩:=Zuv hv hz;have hp:=Qxd hv z.2.1;rw[e1]at hp;have h:=Zrr (s:=s) (P:=(cAt m z.2.1).2.2.2.2.2.1) (C:=(cAt m z.2.1).2.2.2.2.2.2.1) hp;unfold Xu;rw[e1,e2];exact h
theorem Zka(b:ByteArray):(b==b)=true:=by
 cases b with
 |mk d=>show(d==d)=true;simp
end Go.Proofs.Tryz
