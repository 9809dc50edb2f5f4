/- Plain law: EntrySteps. -/
import Derived.Test.YtpkbmngnolhopaaGreatDoorXT4c
import Derived.Test.YtpkbmngnolhopaaGreatDoorXTeL7
set_option maxRecDepth 100000
set_option linter.unusedVariables false
set_option linter.unusedSimpArgs false
open Option renaming bind_some->j
open Bool renaming not_true->C,and_self->J,and_true->U,not_false->ZA
open Nat renaming le_trans->I,zero_add->ZB,min_eq_left->ZC
namespace Go.Proofs.Tryz
open Go Go.Sx
theorem Yks{F:Nat}(hF:700<=F){m:Mt}(hm:m.2.2.2.2.length<=300)(hb:∀x∈m.2.2.2.2,x.1.size<=300∧x.2.2.1.size<=300){s:Qj}(hS:Za s)(hf:Yi m s=0->We s){a:Yk}(ha:Zs (a.1,a.2.2))(h0:Z1 a=0):Qbo F m s a (lgA m s a) (nxA s a):=by
 obtain⟨d,k,r⟩:=a;rcases Qt4 h0 with e|e|e|e|e|e|e|e<;>obtain rfl:k=_:=e
 ·exact Ykz hF hm hb hS hf (b:=(d,r)) ha
 ·exact Ycp hF hm hb hS hf (b:=(d,r)) ha
 ·exact Zwx hF hm hb hS hf (b:=(d,r)) ha
 ·exact Ya0 hF hm hb hS hf (b:=(d,r)) ha
 ·exact Yn7 hF hm hb hS hf (b:=(d,r)) ha
 ·exact Zvy hF hm hb hS hf (b:=(d,r)) ha
 ·exact Yg6 hF hm hb hS hf (b:=(d,r)) ha
 ·exact Ypf hF hm hb hS hf (b:=(d,r)) ha
theorem Yl0{n:Nat}{s:Qj}(h:GrS n s)(hn:n<=40):We s:=
 ⟨I h.c hn,I h.a hn,I h.l hn,I h.e hn,I h.t hn⟩
theorem x29(F:Nat)(m:Mt)(l:List Yk):Qpq F (m,l)=c29 F (m,l):=by unfold Qpq c29;simp[Zh]
theorem Zs7(a:Mt×List Yk)(hok:Qt.ok [atM,atL] a):∃F,c7 F a=some true:=by
 obtain⟨m,l⟩:=a;obtain⟨k1,k2⟩:=hok;have hmb:m.2.2.2.2.length*128<=140737488355328:=okM k1;have hlb:l.length*168<=140737488351232:=(okL k2).1;have hd:YA=dA3:=rfl;have hzs:(Qa ByteArray,Qa (Qs),Qa (Qw),Qa (Qi),Qa (Qv))=zS:=rfl;refine⟨Qc7 m l,?_⟩;have r1:100000<=Qc7 m l:=by unfold Qc7;omega
 have r2:m.2.2.2.2.length<Qc7 m l:=by unfold Qc7;omega
 have r3:l.length<Qc7 m l:=by unfold Qc7;omega
 generalize Qc7 m l=F at r1 r2 r3;have hF4:400<=F:=by omega
 have hF7:700<=F:=by omega
 obtain⟨b1,h1,h1'⟩:=l17 r2 hmb;obtain⟨b2,h2,h2'⟩:=l28 hF4 r3 (by omega) (n:=24) (by decide);have h2:c28 F (l,24)=some b2:=h2;unfold c7;simp only[Q3,l15 r2 hmb,l27 r3 (show l.length*168<=140737488355328 by omega),h1,h2,j,hd,hzs];cases b1 with
 |false=>rfl
 |true=>
  cases b2 with
  |false=>rfl
  |true=>
   have hM:=h1' rfl;have hL:=h2' rfl;have hlen:=hL.len (by decide);simp only[C,cond_false,j,l22 hF4 hM.len,l31 hF7 hlen hL.s];by_cases hv:Yg m=0
   ·by_cases hz:(if 256<l.length then 5 else Qk (l.map Z1))=0
    ·by_cases h24:(24:Int)<l.length
     ·simp only[hv,hz,h24,decide_true,C,cond_false,cond_true,j]
     ·have hn:l.length<=256:=by omega
      have h0:Qk [Yg m,if 256<l.length then 5 else Qk (l.map Z1)]=0:=by rw[hv,hz];rfl
      have hz':=hz;rw[if_neg (by omega)]at hz';have ho:Qvl l:=⟨hn,hL.s,fun a ha=>X1 hz' _ (List.mem_map.2 ⟨a,ha,rfl⟩)⟩;have hfin:=Qib (m:=m) Qi1 ho.s;rw[ZB]at hfin;have hg:=hfin.g;simp only[hv,hz,h24,decide_true,decide_false,C,cond_false,j,l29 hF7 hM.len hM.bd hlen hL.s];have h0':Qk [0,0]=0:=rfl;simp only[h0',if_true,decide_true,C,cond_false];generalize hP:(l.foldl (Zw m) Ys).2.1=P;have hPl:P.length<=l.length:=hP▸hfin.o;refine Jh l (fun(q:Q7) i=>(q.1,q.2.1,q.2.2.1,q.2.2.2,(i:Int))) (fun a q=>.inl (q7S m q a)) (fun q=>.inr (q.1,q.2.1,q.2.2.2)) (fun i q=>I7 m l i q) (zS,[],0,0) (by omega) rfl ⟨rfl,rfl,rfl,Zfu hv,rfl,rfl,Int.le_refl _,fun _ h=>(by cases h),Nat.le_refl _⟩ ?_ ?_ ?_
      ·intro i a q hi ha hI;have hmem:=List.mem_of_getElem? ha;have hgi:GrS i q.1:=by have:=(Qib (m:=m) (l:=l.take i) Qi1 (fun a ha=>ho.s a (List.mem_of_mem_take ha))).g;rw[ZB,List.length_take,ZC (by omega)]at this;rw[hI.s];exact this
       have hst:=(Qpd m q.1).2 hI.ok;have R:=Yks (F:=F) hF7 hM.len hM.bd (hgi.sm (by omega)) (fun _=>Yl0 hgi (by omega)) (ho.s a hmem) (ho.e a hmem);have hle:Z5 m q.1 a (lgA m q.1 a)=lgA m q.1 a:=by unfold Z5;rw[if_pos hst,if_pos (ho.e a hmem)]
       have hstep:=Zhe hI hgi (by omega) ha (ho.s a hmem) (ho.e a hmem);refine⟨?_,fun s' hs=>?_⟩
       ·have hE:(bif decide (a.1<q.2.2.1)then some (11:Int)else some (lgA m q.1 a))=some (rpE m q.1 q.2.2.1 a):=by unfold rpE;by_cases g:a.1<q.2.2.1<;>simp[g]
        simp(disch:=omega)only[Zx,Zf,Int.toNat_natCast,getD_some ha,Zv,Q3,R.p49,hle,j,hE];by_cases e:rpE m q.1 q.2.2.1 a=0
        ·have hlg:=(Qtu e).2;have hgn:=Qw7 hgi (ho.s a hmem);have hsn:Yi m (nxA q.1 a)=0:=(Qpd m _).2 (Zg0 hI.ok hgi (by omega) (ho.s a hmem) (ho.e a hmem) hlg);have hc5:=hI.c5;have hcl:(q.2.1++a::Qa Yk).length*168<=140737488355328:=by rw[Zkv];omega
         have hcl2:(q.2.1++a::Qa Yk).length<=9223372036854775807:=by rw[Zkv];omega
         have hq:q7S m q a=(nxA q.1 a,q.2.1++[a],if q.2.2.1<a.1 then a.1 else q.2.2.1,q.2.2.2):=by unfold q7S;simp only[e,if_true]
         have h50:=R.p50;rw[hle,hlg,if_pos rfl]at h50;simp only[e,decide_true,C,cond_false,h50,j,Zhv hF4 (Zgn hgn (by omega)),l26 hF4 hM.len (hgn.sm (by omega)),hsn,Zf hcl,Zf hcl2,J,U,Zh,Sum.elim_inr,hq];rfl
        ·obtain⟨t,ht⟩:=Zby (m:=m) (l.drop (i+1)) ((l.take (i+1)).foldl (Zw m) Ys);rw[<-List.foldl_append,List.take_append_drop,hP,Qes ha]at ht;have hix:=(Qib (m:=m) (l:=l.take i) Qi1 (fun a ha=>ho.s a (List.mem_of_mem_take ha))).ix;rw[ZB,List.length_take,ZC (by omega)]at hix;have hE2:rpE m ((l.take i).foldl (Zw m) Ys).1 ((l.take i).foldl (Zw m) Ys).2.2.1 a=rpE m q.1 q.2.2.1 a:=by rw[hI.s,hI.d]
         have hr:(Zw m ((l.take i).foldl (Zw m) Ys) a).2.1=((l.take i).foldl (Zw m) Ys).2.1++[((i:Int),rpE m q.1 q.2.2.1 a)]:=by show(if rpE m ((l.take i).foldl (Zw m) Ys).1 ((l.take i).foldl (Zw m) Ys).2.2.1 a=0 then _ else _++[(((l.take i).foldl (Zw m) Ys).2.2.2,rpE m ((l.take i).foldl (Zw m) Ys).1 ((l.take i).foldl (Zw m) Ys).2.2.1 a)])=_;rw[hE2,if_neg e,hix]
         rw[hr]at ht;have hn2:=hI.n;generalize ((l.take i).foldl (Zw m) Ys).2.1=X at ht hn2;have hPn:P.length=X.length+1+t.length:=by rw[ht];simp;omega
         have hget:P.getD X.length (0,0)=((i:Int),rpE m q.1 q.2.2.1 a):=by rw[ht,List.append_assoc];exact Yik rfl
         have hne:¬(X.length:Int)=(P.length:Int):=by omega
         have hw:w64 ((X.length:Int)+1)=(X.length:Int)+1:=Zv (by omega) (by omega);have hq:q7S m q a=(q.1,q.2.1,if q.2.2.1<a.1 then a.1 else q.2.2.1,(X.length:Int)+1):=by unfold q7S;simp only[e,if_false,hn2]
         simp(disch:=omega)only[e,decide_false,ZA,cond_true,hn2,hne,cond_false,Zf,Int.toNat_natCast,hget,decide_true,J,U,C,j,Zh,hw,Sum.elim_inr,hq];rfl
       ·simp only[Sum.inl.injEq]at hs;subst hs;exact hstep
      ·intro q hI;simp(disch:=omega)only[Zz,decide_true,J,U,Zh,j]
      ·rw[Qi4];have hI:=Zap hv ho l.length (Nat.le_refl _);rw[List.take_length]at hI;generalize l.foldl (q7S m) (zS,[],0,0)=q at hI;have hs1:=hI.s;have hn1:=hI.n;rw[List.take_length]at hs1 hn1;rw[hP]at hn1;have hc5:=hI.c5;have hshc:∀a∈q.2.1,Zs (a.1,a.2.2):=fun a ha=>ho.s a (hI.c4 a ha);have hac:Qk (q.2.1.map Z1)=0:=Qhj fun e he=>by obtain⟨a,ha,rfl⟩:=List.mem_map.1 he;exact ho.e a (hI.c4 a ha)
       have hz2:(if 256<q.2.1.length then 5 else Qk (q.2.1.map Z1))=0:=by rw[if_neg (by omega)];exact hac
       have hls:Jg (l.foldl (Zw m) Ys).1:=Zgn hg hn;have h33:c33 F ((l.foldl (Zw m) Ys).1,(l.foldl (Zw m) Ys).1)=some true:=l33 hF4 hls fun t ht=>I (hg.tn t ht) (by decide);simp only[J,U,Zh,j,Sum.elim_inr,x29,l29 hF7 hM.len hM.bd (show q.2.1.length<=300 by omega) hshc,hv,hz2,h0',if_true,hn1,decide_true,cond_true,hs1,Zhv hF4 hls,h33,hI.c1,hI.c2,List.length_nil];rfl
    ·simp only[hv,hz,decide_true,decide_false,C,ZA,cond_false,cond_true,j]
   ·simp only[hv,decide_false,ZA,cond_true,j]
end Go.Proofs.Tryz
