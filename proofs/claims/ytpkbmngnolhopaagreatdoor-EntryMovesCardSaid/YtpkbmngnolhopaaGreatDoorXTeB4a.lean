/- Functions of the program as functions of data. By program. Functions of the program as functions of data. By program. And further parts. -/
import Derived.Test.YtpkbmngnolhopaaGreatDoorXT3i
import Derived.Test.YtpkbmngnolhopaaGreatDoorXT3f
set_option maxRecDepth 100000
set_option linter.all false
set_option linter.unusedVariables false
set_option linter.unusedSimpArgs false
section
namespace Go.Proofs.Tryz
open Go Go.Sx
noncomputable section
def Zg4(F:Nat):LK:=lN
def Qfo(F:Nat)(a:List ByteArray):Option (List ByteArray):=
 bif decide (a.length=0)then((gd (decide (List.length (Qa ByteArray++a)*(16:Nat)≤(140737488355328:Nat))) (gd (decide (List.length (Qa ByteArray++a)≤9223372036854775807)) (gd (decide ((0:Nat)+List.length (Qa ByteArray++a)≤List.length (Qa ByteArray++a))) (some (List.take (List.length (Qa ByteArray++a)) (List.drop (0:Nat) (Qa ByteArray++a))))))).bind fun(v4:List ByteArray)=>gd (Qs.eqv (Qf.val (Ty.seq Z2)::Qa Qf) (Qa ByteArray) v4) (some (Qa ByteArray)))else(gd (decide (List.length (Qa ByteArray++a)*(16:Nat)≤(140737488355328:Nat))) (gd (decide (List.length (Qa ByteArray++a)≤9223372036854775807)) (gd (decide ((0:Nat)+List.length (Qa ByteArray++a)≤List.length (Qa ByteArray++a))) (some (List.take (List.length (Qa ByteArray++a)) (List.drop (0:Nat) (Qa ByteArray++a)))))))
def Yfz(F:Nat):PC:={ats:=Qbg,rts:=Qbg,code:=Qfo F}
theorem Zvb(F:Nat)(a:List ByteArray):Zm cx (Zg4 F).x 1000 .leaf f150 (Qq f150) Qbg Qbg a=Qfo F a:=by kernel_rfl
theorem Qxu(F:Nat):Qg cx 150 (Yfz F):=Qg.Zr Zs (Zg4 F).ok (n:=1000) (an:=.leaf) (fn:=f150) (c:=Qq f150) (by kernel_rfl) (by kernel_rfl) (fun a y h=>(Zvb F a).trans h) (by kernel_rfl)
def Zb6(F:Nat):LK:=lN
def Qcm(F:Nat)(a:List (Qu)):Option (List (Qu)):=
 bif decide (a.length=0)then((gd (decide (List.length (Qa (Qu)++a)*(56:Nat)≤(140737488355328:Nat))) (gd (decide (List.length (Qa (Qu)++a)≤9223372036854775807)) (gd (decide ((0:Nat)+List.length (Qa (Qu)++a)≤List.length (Qa (Qu)++a))) (some (List.take (List.length (Qa (Qu)++a)) (List.drop (0:Nat) (Qa (Qu)++a))))))).bind fun(v4:List (Qu))=>gd (Qs.eqv (Qf.val (Ty.seq Xm)::Qa Qf) (Qa (Qu)) v4) (some (Qa (Qu))))else(gd (decide (List.length (Qa (Qu)++a)*(56:Nat)≤(140737488355328:Nat))) (gd (decide (List.length (Qa (Qu)++a)≤9223372036854775807)) (gd (decide ((0:Nat)+List.length (Qa (Qu)++a)≤List.length (Qa (Qu)++a))) (some (List.take (List.length (Qa (Qu)++a)) (List.drop (0:Nat) (Qa (Qu)++a)))))))
def Ykc(F:Nat):PC:={ats:=Qc8,rts:=Qc8,code:=Qcm F}
theorem Yhi(F:Nat)(a:List (Qu)):Zm cx (Zb6 F).x 1000 .leaf f199 (Qq f199) Qc8 Qc8 a=Qcm F a:=by kernel_rfl
theorem Zzf(F:Nat):Qg cx 199 (Ykc F):=Qg.Zr Zs (Zb6 F).ok (n:=1000) (an:=.leaf) (fn:=f199) (c:=Qq f199) (by kernel_rfl) (by kernel_rfl) (fun a y h=>(Yhi F a).trans h) (by kernel_rfl)
def Zbx(F:Nat):LK:=lN
def Qbd(F:Nat)(a:List (Qz)):Option (List (Qz)):=
 bif decide (a.length=0)then((gd (decide (List.length (Qa (Qz)++a)*(32:Nat)≤(140737488355328:Nat))) (gd (decide (List.length (Qa (Qz)++a)≤9223372036854775807)) (gd (decide ((0:Nat)+List.length (Qa (Qz)++a)≤List.length (Qa (Qz)++a))) (some (List.take (List.length (Qa (Qz)++a)) (List.drop (0:Nat) (Qa (Qz)++a))))))).bind fun(v4:List (Qz))=>gd (Qs.eqv (Qf.val (Ty.seq Xp)::Qa Qf) (Qa (Qz)) v4) (some (Qa (Qz))))else(gd (decide (List.length (Qa (Qz)++a)*(32:Nat)≤(140737488355328:Nat))) (gd (decide (List.length (Qa (Qz)++a)≤9223372036854775807)) (gd (decide ((0:Nat)+List.length (Qa (Qz)++a)≤List.length (Qa (Qz)++a))) (some (List.take (List.length (Qa (Qz)++a)) (List.drop (0:Nat) (Qa (Qz)++a)))))))
def Zm2(F:Nat):PC:={ats:=Qc1,rts:=Qc1,code:=Qbd F}
theorem Zw5(F:Nat)(a:List (Qz)):Zm cx (Zbx F).x 1000 .leaf f200 (Qq f200) Qc1 Qc1 a=Qbd F a:=by kernel_rfl
theorem Zu8(F:Nat):Qg cx 200 (Zm2 F):=Qg.Zr Zs (Zbx F).ok (n:=1000) (an:=.leaf) (fn:=f200) (c:=Qq f200) (by kernel_rfl) (by kernel_rfl) (fun a y h=>(Zw5 F a).trans h) (by kernel_rfl)
def Qww(F:Nat):LK:=lN
def Qam(F:Nat)(a:List (Qh)):Option (List (Qh)):=
 bif decide (a.length=0)then((gd (decide (List.length (Qa (Qh)++a)*(88:Nat)≤(140737488355328:Nat))) (gd (decide (List.length (Qa (Qh)++a)≤9223372036854775807)) (gd (decide ((0:Nat)+List.length (Qa (Qh)++a)≤List.length (Qa (Qh)++a))) (some (List.take (List.length (Qa (Qh)++a)) (List.drop (0:Nat) (Qa (Qh)++a))))))).bind fun(v4:List (Qh))=>gd (Qs.eqv (Qf.val (Ty.seq Zn)::Qa Qf) (Qa (Qh)) v4) (some (Qa (Qh))))else(gd (decide (List.length (Qa (Qh)++a)*(88:Nat)≤(140737488355328:Nat))) (gd (decide (List.length (Qa (Qh)++a)≤9223372036854775807)) (gd (decide ((0:Nat)+List.length (Qa (Qh)++a)≤List.length (Qa (Qh)++a))) (some (List.take (List.length (Qa (Qh)++a)) (List.drop (0:Nat) (Qa (Qh)++a)))))))
def Zmq(F:Nat):PC:={ats:=Qa3,rts:=Qa3,code:=Qam F}
theorem Zwt(F:Nat)(a:List (Qh)):Zm cx (Qww F).x 1000 .leaf f201 (Qq f201) Qa3 Qa3 a=Qam F a:=by kernel_rfl
theorem Zt0(F:Nat):Qg cx 201 (Zmq F):=Qg.Zr Zs (Qww F).ok (n:=1000) (an:=.leaf) (fn:=f201) (c:=Qq f201) (by kernel_rfl) (by kernel_rfl) (fun a y h=>(Zwt F a).trans h) (by kernel_rfl)
end
end Go.Proofs.Tryz
end
section
namespace Go.Proofs.Tryz
open Go Go.Sx
noncomputable section
end
end Go.Proofs.Tryz
end
namespace Go.Proofs.Tryz
open Go Go.Sx
theorem Zxt{F:Nat}{l:List ByteArray}(h:l.length≤1000):Qfo F l=some l:=by
 have e:Qa ByteArray++l=l:=rfl;have h1:l.length*16≤140737488355328:=by omega
 have h2:l.length≤9223372036854775807:=by omega
 unfold Qfo;simp only[e,h1,h2,Nat.zero_add,Nat.le_refl,decide_true,Zp,List.drop_zero,List.take_length,Option.bind_some];by_cases h0:l.length=0
 ·obtain rfl:=List.eq_nil_of_length_eq_zero h0;rfl
 ·simp only[h0,decide_false,cond_false]
theorem Qod{l:List ByteArray}{x:ByteArray}:hasB l x=true↔x∈l:=by
 unfold hasB;rw[List.any_eq_true];constructor
 ·rintro ⟨y,hy,e⟩
  rw[Je.1 e]at hy;exact hy
 ·intro h;exact⟨x,h,Jm x⟩
theorem Zab{l:List ByteArray}{x:ByteArray}:hasB l x=false↔x∉l:=by rw[←Qod,Bool.not_eq_true]
theorem Zbo(l:List ByteArray)(y x:ByteArray):hasB (l++[y]) x=(hasB l x||Qc y x):=by unfold hasB;rw[List.any_append];simp
def W0(A B:List ByteArray):List ByteArray:=B.filter fun w=>!hasB A w
theorem Zpw{A B:List ByteArray}{x:ByteArray}(h:x∉B):W0 (A++[x]) (B++[x])=W0 A B:=by
 unfold W0;rw[List.filter_append];have h1:B.filter (fun w=>!hasB (A++[x]) w)=B.filter fun w=>!hasB A w:=by
  refine List.filter_congr fun w hw=>?_;rw[Zbo];have:Qc x w=false:=by
   cases e:Qc x w with
   |false=>rfl
   |true=>rw[Je.1 e]at h;exact absurd hw h
  rw[this,Bool.or_false]
 have h2:([x].filter fun w=>!hasB (A++[x]) w)=[]:=by simp[Zbo,Jm]
 rw[h1,h2,List.append_nil]
theorem Ydz{A B:List ByteArray}{x:ByteArray}(h:x∉A):(W0 A (B++[x])).length=(W0 A B).length+1:=by unfold W0;rw[List.filter_append,List.length_append];simp[Zab.2 h]
theorem Yei{A B:List ByteArray}(h:∀w∈B,w∈A):W0 A B=[]:=by unfold W0;rw[List.filter_eq_nil_iff];intro w hw;simp[Qod.2 (h w hw)]
structure Qjn (a cz:ByteArray) (P:Int) (D D':Dv) (t:Nat):Prop where
 sub:∀w∈D.2.1,w≠a→w∈D'.2.1
 len:D'.2.1.length+1=D.2.1.length+t
 more:(W0 D.2.1 D'.2.1).length=t
 cnt:t=0∧(∀k,Vz D.2.2 k=Vz D'.2.2 k+if Qc cz k=true then 1 else 0)∨t=1∧(P≤(D.2.1.length:Int)∨∀k,Vz D.2.2 k=Vz D'.2.2 k)
theorem Yh8{s:Qw}{a cz:ByteArray}{P C:Int}{D D':Dv}{t:Nat}(h:Qjn a cz P D D' t){x:Qp}(hx:x.1≠a)(h1:x.1∉D.2.1)(h2:x.1∉D'.2.1):
  ∃t',Qjn a cz P (Yi s P C D x) (Yi s P C D' x) t':=by
 obtain⟨s1,s2,s3,s4⟩:=h;unfold Yi;cases hD:inD s P C D x<;>cases hD':inD s P C D' x
 ·simp only[Bool.false_eq_true,if_false];exact⟨t,s1,s2,s3,s4⟩
 ·simp only[Bool.false_eq_true,if_false,if_true];unfold inD at hD hD';simp only[Bool.and_eq_false_iff,Bool.and_eq_true,decide_eq_true_eq,decide_eq_false_iff_not]at hD hD';obtain⟨q1,q2⟩:=hD';rcases s4 with⟨r1,r2⟩|⟨r1,r2⟩
  ·refine⟨1,?_,?_,?_,.inr ⟨rfl,?_⟩⟩
   ·intro w hw hn;exact List.mem_append_left _ (s1 w hw hn)
   ·simp only[List.length_append,List.length_singleton];omega
   ·simp only[];rw[Ydz h1];omega
   ·rcases hD with hD|hD
    ·left;show P≤(D.2.1.length:Int);omega
    ·right;intro k;have r3:=r2 (X8 s x.1);have r4:=r2 k;simp only[Qmj];by_cases e:Qc cz (X8 s x.1)=true
     ·rw[Je.1 e]at r4;exact r4
     ·rw[if_neg e]at r3;omega
  ·exfalso;rcases r2 with r2|r2
   ·omega
   ·have:=r2 (X8 s x.1);rcases hD with hD|hD<;>omega
 ·exfalso;unfold inD at hD hD';simp only[Bool.and_eq_false_iff,Bool.and_eq_true,decide_eq_true_eq,decide_eq_false_iff_not]at hD hD';obtain⟨q1,q2⟩:=hD;rcases s4 with⟨r1,r2⟩|⟨r1,r2⟩
  ·have:=r2 (X8 s x.1);rcases hD' with hD'|hD'
   ·omega
   ·split at this<;>omega
  ·rcases r2 with r2|r2
   ·omega
   ·have:=r2 (X8 s x.1);rcases hD' with hD'|hD'<;>omega
 ·simp only[if_true];refine⟨t,?_,?_,?_,?_⟩
  ·intro w hw hn;rcases List.mem_append.1 hw with hw|hw
   ·exact List.mem_append_left _ (s1 w hw hn)
   ·exact List.mem_append_right _ hw
  ·simp only[List.length_append,List.length_singleton];omega
  ·simp only[];rw[Zpw h2];exact s3
  ·simp only[Qmj,List.length_append,List.length_singleton];rcases s4 with⟨r1,r2⟩|⟨r1,r2⟩
   ·exact .inl ⟨r1,fun k=>by have:=r2 k;omega⟩
   ·refine .inr ⟨r1,?_⟩;rcases r2 with r2|r2
    ·exact .inl (by omega)
    ·exact .inr fun k=>by have:=r2 k;omega
theorem Zau{s:Qw}{a cz:ByteArray}{P C:Int}:∀(R:List Qp) (D D':Dv) (t:Nat),Qjn a cz P D D' t→(∀x∈R,x.1≠a∧x.1∉D.2.1∧x.1∉D'.2.1)→R.Pairwise (fun x y=>x.1≠y.1)→
  ∃t',Qjn a cz P (R.foldl (Yi s P C) D) (R.foldl (Yi s P C) D') t'
 |[],D,D',t,h,_,_=>⟨t,h⟩
 |x::R,D,D',t,h,hx,hp=>by
  obtain⟨x1,x2,x3⟩:=hx x (List.mem_cons_self ..);obtain⟨t',h'⟩:=Yh8 (s:=s) (C:=C) h x1 x2 x3;rw[List.pairwise_cons]at hp;refine Zau R _ _ t' h' (fun y hy=>?_) hp.2;obtain⟨y1,y2,y3⟩:=hx y (List.mem_cons_of_mem _ hy);have hne:=hp.1 y hy;have m:∀d:Dv,y.1∉d.2.1→y.1∉(Yi s P C d x).2.1:=by
   intro d hd;unfold Yi;split
   ·intro hm;rcases List.mem_append.1 hm with hm|hm
    ·exact hd hm
    ·rw[List.mem_singleton]at hm;exact hne hm.symm
   ·exact hd
  exact⟨y1,m D y2,m D' y3⟩
theorem Qyz{s:Qw}{P C:Int}:∀(R:List Qp) (d d':Dv),d.2=d'.2→(R.foldl (Yi s P C) d).2=(R.foldl (Yi s P C) d').2
 |[],_,_,h=>h
 |x::R,d,d',h=>by refine Qyz R _ _ ?_;unfold Yi inD;rw[h];split<;>simp[h]
theorem Qp6{s:Qw}{P C:Int}:∀(R:List Qp) (d:Dv) (w:ByteArray),w∈(R.foldl (Yi s P C) d).2.1→w∈d.2.1∨∃x∈R,x.1=w
 |[],_,_,h=>.inl h
 |x::R,d,w,h=>by
  rcases Qp6 R _ w h with h|⟨y,hy,e⟩
  ·unfold Yi at h;split at h
   ·rcases List.mem_append.1 h with h|h
    ·exact .inl h
    ·rw[List.mem_singleton]at h;exact .inr ⟨x,List.mem_cons_self ..,h.symm⟩
   ·exact .inl h
  ·exact .inr ⟨y,List.mem_cons_of_mem _ hy,e⟩
theorem Za1{s:Qw}{P C:Int}:∀(R:List Qp) (d:Dv) (w:ByteArray),w∈d.2.1→w∈(R.foldl (Yi s P C) d).2.1
 |[],_,_,h=>h
 |x::R,d,w,h=>by
  refine Za1 R _ w ?_;unfold Yi;split
  ·exact List.mem_append_left _ h
  ·exact h
theorem Zrr{s:Qw}{P C:Int}{L1 L2:List Qp}{e:Qp}(hu:(L1++e::L2).Pairwise (fun x y=>x.1≠y.1)):
  hasB (X2 s P C (L1++e::L2)).2.1 e.1=false∧(X2 s P C (L1++e::L2)).2.1=(X2 s P C (L1++L2)).2.1∨
  hasB (X2 s P C (L1++e::L2)).2.1 e.1=true∧(∀w∈(X2 s P C (L1++e::L2)).2.1,w≠e.1→w∈(X2 s P C (L1++L2)).2.1)∧
   ∃t,t≤1∧(X2 s P C (L1++L2)).2.1.length+1=(X2 s P C (L1++e::L2)).2.1.length+t∧(W0 (X2 s P C (L1++e::L2)).2.1 (X2 s P C (L1++L2)).2.1).length=t:=by
 rw[List.pairwise_append,List.pairwise_cons]at hu;obtain⟨u1,⟨u2,u3⟩,u4⟩:=hu;unfold X2;rw[List.foldl_append,List.foldl_append,List.foldl_cons];have n1:∀w∈(L1.foldl (Yi s P C) ([],[],[])).2.1,∃x∈L1,x.1=w:=fun w hw=>by
  rcases Qp6 L1 _ w hw with h|h
  ·simp at h
  ·exact h
 generalize hd:L1.foldl (Yi s P C) ([],[],[])=d at n1;have ne:e.1∉d.2.1:=fun h=>by obtain⟨x,hx,hn⟩:=n1 _ h;exact u4 x hx e (List.mem_cons_self ..) hn
 cases hi:inD s P C d e with
 |false=>
  left;have e1:(L2.foldl (Yi s P C) (Yi s P C d e)).2=(L2.foldl (Yi s P C) d).2:=Qyz L2 _ _ (by unfold Yi;rw[hi];rfl);rw[e1];refine⟨Zab.2 fun h=>?_,rfl⟩;rcases Qp6 L2 _ _ h with h|⟨x,hx,hn⟩
  ·exact ne h
  ·exact u2 x hx hn.symm
 |true=>
  right;have e1:Yi s P C d e=(d.1,d.2.1++[e.1],d.2.2++[X8 s e.1]):=by unfold Yi;rw[hi];rfl
  have r0:Qjn e.1 (X8 s e.1) P (Yi s P C d e) d 0:=by
   rw[e1];refine⟨?_,?_,?_,.inl ⟨rfl,fun k=>Qmj ..⟩⟩
   ·intro w hw hn;rcases List.mem_append.1 hw with hw|hw
    ·exact hw
    ·rw[List.mem_singleton]at hw;exact absurd hw hn
   ·simp
   ·simp only[];rw[Yei fun w hw=>List.mem_append_left _ hw];rfl
  obtain⟨t,s1,s2,s3,s4⟩:=Zau (s:=s) (C:=C) L2 _ _ 0 r0 (fun x hx=>by
   have k2:x.1∉d.2.1:=fun h=>by obtain⟨y,hy,hn⟩:=n1 _ h;exact u4 y hy x (List.mem_cons_of_mem _ hx) hn
   have k1:x.1≠e.1:=fun h=>u2 x hx h.symm;refine⟨k1,?_,k2⟩;rw[e1];intro h;rcases List.mem_append.1 h with h|h
   ·exact k2 h
   ·rw[List.mem_singleton]at h;exact k1 h) u3
  refine⟨Qod.2 (Za1 L2 _ _ ?_),s1,t,?_,s2,s3⟩
  ·rw[e1];simp
  ·rcases s4 with⟨h,_⟩|⟨h,_⟩<;>omega
abbrev Qet:=Z4
abbrev Yp:=Int×Z1
def Z8(s:ByteArray):Int:=if Yy s=true then 0 else 8
def Yr(n:Int):Int:=if Z7 n=true then 3 else 0
def Qj7(l:List ByteArray):Int:=if 8<l.length then 5 else Qn (l.map Z8)
def Qjy(b:Yp):Int:=if b.2.2.2.2.2.2.1<b.2.2.2.2.2.1 then 11 else 0
def Qmk(b:Yp):Int:=Jf b.2.2.2.2.2.2.2.1 b.2.2.2.2.2.2.2.2.1 b.2.2.2.2.2.2.2.2.2.1
def Ju(A C G K Fr T M N:Bool)(b:Yp):Bool:=
 (!A&& !Qc b.2.1 k0)||((!C&& !Qc b.2.2.1 k0)||((!G&& !Qc b.2.2.2.1 k0)||((!K&& !Qc b.2.2.2.2.1 k0)||((!Fr&& !decide (b.2.2.2.2.2.1=0))||((!T&& !decide (b.2.2.2.2.2.2.1=0))||
 ((!M&& !(b.2.2.2.2.2.2.2.1==k0&&(decide (b.2.2.2.2.2.2.2.2.1=0)&&(b.2.2.2.2.2.2.2.2.2.1==k0&&true))))||(!N&&decide ((0:Int)<(b.2.2.2.2.2.2.2.2.2.2.length:Int)))))))))
def Yn(A C G K Fr T M N L:Bool)(b:Yp):Int:=
 Qn [Yr b.1,bif A then Z8 b.2.1 else 0,bif C then Z8 b.2.2.1 else 0,bif G then Z8 b.2.2.2.1 else 0,bif K then Z8 b.2.2.2.2.1 else 0,bif Fr then Yr b.2.2.2.2.2.1 else 0,bif T then Yr b.2.2.2.2.2.2.1 else 0,
  bif L then Qjy b else 0,bif M then Qmk b else 0,bif N then Qj7 b.2.2.2.2.2.2.2.2.2.2 else 0,if Ju A C G K Fr T M N b=true then 1 else 0]
def Qla:ByteArray:={data:=List.toArray ((99:UInt8)::(108:UInt8)::(117:UInt8)::(98:UInt8)::Qa UInt8)}
def Qli:ByteArray:={data:=List.toArray ((97:UInt8)::(116:UInt8)::(104:UInt8)::(108:UInt8)::(101:UInt8)::(116:UInt8)::(101:UInt8)::Qa UInt8)}
def Qmz:ByteArray:={data:=List.toArray ((108:UInt8)::(105:UInt8)::(99:UInt8)::(101:UInt8)::(110:UInt8)::(99:UInt8)::(101:UInt8)::Qa UInt8)}
def Qpj:ByteArray:={data:=List.toArray ((116:UInt8)::(114:UInt8)::(97:UInt8)::(110:UInt8)::(115:UInt8)::(102:UInt8)::(101:UInt8)::(114:UInt8)::Qa UInt8)}
def Qpe:ByteArray:={data:=List.toArray ((101:UInt8)::(110:UInt8)::(116:UInt8)::(101:UInt8)::(114:UInt8)::Qa UInt8)}
def Yz:ByteArray:={data:=List.toArray ((119:UInt8)::(105:UInt8)::(116:UInt8)::(104:UInt8)::(100:UInt8)::(114:UInt8)::(97:UInt8)::(119:UInt8)::Qa UInt8)}
def Qlc:ByteArray:={data:=List.toArray ((99:UInt8)::(104:UInt8)::(101:UInt8)::(99:UInt8)::(107:UInt8)::Qa UInt8)}
def Qoj:ByteArray:={data:=List.toArray ((116:UInt8)::(101:UInt8)::(97:UInt8)::(109:UInt8)::Qa UInt8)}
theorem X7(x:Int)(l:List Int):Qn (x::l)=if x=0 then Qn l else x:=rfl
theorem Qae:∀(l m:List Int),Qn (l++m)=if Qn l=0 then Qn m else Qn l
 |[],m=>by simp[Qn]
 |x::l,m=>by rw[List.cons_append,X7,X7,Qae l m];by_cases h:x=0<;>simp[h]
end Go.Proofs.Tryz
