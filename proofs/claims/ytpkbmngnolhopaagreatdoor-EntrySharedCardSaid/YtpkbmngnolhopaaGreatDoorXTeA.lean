/- awake: the program run at its fixed examples returns true Functions of the program as functions of data. By program. And further parts. -/
import Derived.Test.YtpkbmngnolhopaaGreatDoorXTeW2
import Derived.Test.YtpkbmngnolhopaaGreatDoorXT3i
import Derived.Test.YtpkbmngnolhopaaGreatDoorXT3g
set_option maxRecDepth 1000000
set_option linter.unusedVariables false
set_option linter.all false
set_option linter.unusedSimpArgs false
namespace Go.Proofs.Tryz
open Go Go.Sx
noncomputable def lxB:Lx:={ext:=[(82,Qsu.sm),(29,Qif.sm),(52,(Qpn.at Qe3 Qfc).sm),(56,Qsv.sm),(50,(((Qe5.at Qef Qdr).at Qgn Qf0).at Qim Qkp).sm),(49,((Qir.at Qfq Qew).at Qki Qjz).sm),(37,Zbt.sm),(38,Zat.sm),(36,Qyi.sm),(69,Zak.sm),(46,Qss.sm),(81,(Qt4 400).sm),(83,(Qo2 400).sm),(63,(Qtt 400).sm),(44,(Qz7 400).sm),(45,(Qum 400).sm)],anns:=[(2000029,.leaf),(2000046,.leaf),(2000049,.leaf),(2000050,.leaf)],still:=[]}
theorem Zoh:lxB.Ok cx.bare:=Lx.Q3 (PF.Q0 Zl7) (Lx.Q3 (PC.Q0 Qs3) (Lx.Q3 (PC.Q0 (Qg.at2 (pc:=Qpn) Zw1 (a0:=Qe3) (y0:=Qfc) Zhe)) (Lx.Q3 (PC.Q0 Zuc) (Lx.Q3 (PC.Q0 (Qg.at2 (pc:=((Qe5.at Qef Qdr).at Qgn Qf0)) (Qg.at2 (pc:=(Qe5.at Qef Qdr)) (Qg.at2 (pc:=Qe5) Zpq (a0:=Qef) (y0:=Qdr) Zqv) (a0:=Qgn) (y0:=Qf0) Ziq) (a0:=Qim) (y0:=Qkp) Zzj)) (Lx.Q3 (PC.Q0 (Qg.at2 (pc:=(Qir.at Qfq Qew)) (Qg.at2 (pc:=Qir) Zog (a0:=Qfq) (y0:=Qew) Zd3) (a0:=Qki) (y0:=Qjz) Zv9)) (Lx.Q3 (PC.Q0 Zx5) (Lx.Q3 (PC.Q0 Zll) (Lx.Q3 (PC.Q0 Zc9) (Lx.Q3 (PC.Q0 Zuw) (Lx.Q3 (PC.Q0 Zyz) (Lx.Q3 (PC.Q0 (Zu9 400).bare) (Lx.Q3 (PC.Q0 (Zb6 400).bare) (Lx.Q3 (PC.Q0 (Zsa 400).bare) (Lx.Q3 (PC.Q0 (Zq7 400).bare) (Lx.Q3 (PC.Q0 (Zx0 400).bare) (Lx.W3))))))))))))))))
noncomputable def c20(F:Nat)(a:Unit):Option Bool:=some true
noncomputable def Ztb(F:Nat):PC:={ats:=[],rts:=[.val .bool],code:=c20 F}
theorem Zum:Z5 cx.bare lxB 3000 .leaf f20 (Qv f20) [] [.val .bool] ()=some true:=by kernel_rfl
theorem Zp6(F:Nat):Qg cx 20 (Ztb F):=Qg.full (Qg.Zs (Cx.Z9 Zt) Zoh (n:=3000) (an:=.leaf) (fn:=f20) (c:=Qv f20) (by kernel_rfl) (by kernel_rfl) (fun a y h=>Zum.trans h) (by kernel_rfl))
end Go.Proofs.Tryz
section
namespace Go.Proofs.Tryz
open Go Go.Sx
end Go.Proofs.Tryz
end
section

end
section
namespace Go.Proofs.Tryz
open Go Go.Sx
end Go.Proofs.Tryz
end
section
namespace Go.Proofs.Tryz
open Go Go.Sx
noncomputable section
end
end Go.Proofs.Tryz
end
section
namespace Go.Proofs.Tryz
open Go Go.Sx
end Go.Proofs.Tryz
end
section
namespace Go.Proofs.Tryz
open Go Go.Sx
end Go.Proofs.Tryz
end
section
namespace Go.Proofs.Tryz
open Go Go.Sx
noncomputable section
end
end Go.Proofs.Tryz
end
section
namespace Go.Proofs.Tryz
open Go Go.Sx
end Go.Proofs.Tryz
end
section

end
section
namespace Go.Proofs.Tryz
open Go Go.Sx
end Go.Proofs.Tryz
end
section

end
section
namespace Go.Proofs.Tryz
open Go Go.Sx
end Go.Proofs.Tryz
end
section
namespace Go.Proofs.Tryz
open Go Go.Sx
end Go.Proofs.Tryz
end
section
namespace Go.Proofs.Tryz
open Go Go.Sx
end Go.Proofs.Tryz
end
namespace Go.Proofs.Tryz
open Go Go.Sx
abbrev atM:Qe:=.agg [.int .i64,.int .i64,.int .i64,.int .i64,.seq [.str,.str,.str,.int .i64,.int .i64,.int .i64,.int .i64,.str,.int .i64,.str,.int .i64]]
abbrev atS:Qe:=.agg [.seq Zr,.seq [.str,.str,.int .i64,.str],.seq [.str,.int .i64,.int .i64],.seq [.str,.str,.str,.int .i64,.str,.int .i64,.bool],.seq [.str,.str,.seq Zr]]
theorem okM{m:Mt}(h:Qe.ok atM m):m.2.2.2.2.length*128≤140737488355328:=by obtain⟨-,-,-,-,h,-⟩:=h;have h:m.2.2.2.2.length*128≤140737488351232:=h;omega
theorem okS{s:Qw}(h:Qe.ok atS s):ByS s:=by obtain⟨⟨h1,-⟩,⟨h2,-⟩,⟨h3,-⟩,⟨h4,-⟩,⟨h5,h6⟩⟩:=h;have h1:s.1.length*16≤140737488351232:=h1;have h2:s.2.1.length*56≤140737488351232:=h2;have h3:s.2.2.1.length*32≤140737488351232:=h3;have h4:s.2.2.2.1.length*88≤140737488351232:=h4;have h5:s.2.2.2.2.length*56≤140737488351232:=h5;refine⟨by omega,by omega,by omega,by omega,by omega,fun x hx=>?_⟩;have h7:x.2.2.length*16≤140737488351232:=(h6 x hx).2.2.1;omega
def Qc9:List Tm→Nat
 |[]=>0
 |x::l=>x.2.2.length+1+Qc9 l
theorem Zcb:∀(l:List Tm),l.length≤Qc9 l∧∀x∈l,x.2.2.length≤Qc9 l
 |[]=>⟨Nat.le_refl _,fun x hx=>(by cases hx)⟩
 |y::l=>by
  obtain⟨h1,h2⟩:=Zcb l;refine⟨by simp only[Qc9,List.length_cons];omega,fun x hx=>?_⟩;simp only[Qc9];rcases List.mem_cons.1 hx with rfl|hx
  ·omega
  ·have:=h2 x hx;omega
def Qc2(m:Mt)(s:Qw):Nat:=m.2.2.2.2.length+s.1.length+s.2.1.length+s.2.2.1.length+s.2.2.2.1.length+s.2.2.2.2.length+Qc9 s.2.2.2.2+100000
theorem Zht(m:Mt)(s:Qw):100000≤Qc2 m s∧m.2.2.2.2.length<Qc2 m s∧Qlc (Qc2 m s) s:=by obtain⟨h1,h2⟩:=Zcb s.2.2.2.2;unfold Qc2;refine⟨by omega,by omega,by omega,by omega,by omega,by omega,by omega,fun x hx=>?_⟩;have:=h2 x hx;omega
theorem MtS.bd{m:Mt}(h:MtS m):∀x∈m.2.2.2.2,x.1.size≤300∧x.2.2.1.size≤300:=fun x hx=>by have:=h.c x hx;unfold CsS at this;omega
theorem MtS.len{m:Mt}(h:MtS m):m.2.2.2.2.length≤300:=by have:=h.n;omega
theorem Zxj(b:Bool):Qx.eqv (Qe.val Ty.bool::Qb Qe) b b=true:=Qx.eqv_rf (Qe.val Ty.bool::Qb Qe) b
end Go.Proofs.Tryz
section
namespace Go.Proofs.Tryz
open Go Go.Sx
end Go.Proofs.Tryz
end
namespace Go.Proofs.Tryz
open Go Go.Sx
theorem Qp9{a c:ByteArray}{y:Qy}:eP a c y=true↔y.1=a∧y.2.1=c:=by unfold eP;rw[Bool.and_eq_true,X4,X4]
end Go.Proofs.Tryz
section
namespace Go.Proofs.Tryz
open Go Go.Sx
end Go.Proofs.Tryz
end
namespace Go.Proofs.Tryz
open Go Go.Sx
abbrev BP:=ByteArray×ByteArray
def prs{α:Type}:List α→List (α×α)
 |[]=>[]
 |x::l=>l.map (fun y=>(x,y))++prs l
theorem Qn3{α:Type}(p:α→Bool):∀(l:List α),prs (l.filter p)=(prs l).filter fun q=>p q.1&&p q.2
 |[]=>rfl
 |x::l=>by
  have hm:((l.map fun y=>(x,y)).filter fun q=>p q.1&&p q.2)=if p x=true then(l.filter p).map fun y=>(x,y)else[]:=by
   rw[List.filter_map];by_cases h:p x=true
   ·rw[if_pos h];congr 1;apply List.filter_congr;intro y _;simp[h]
   ·rw[if_neg h];have:(l.filter ((fun q:α×α=>p q.1&&p q.2)∘fun y=>(x,y)))=[]:=by rw[List.filter_eq_nil_iff];intro y _;simp[h]
    rw[this];rfl
  simp only[prs,List.filter_append,hm];by_cases h:p x=true
  ·rw[List.filter_cons_of_pos h,if_pos h];simp only[prs,Qn3 p l]
  ·rw[List.filter_cons_of_neg h,if_neg h,Qn3 p l];rfl
theorem Qu1{α β:Type}(f:α→β):∀(l:List α),prs (l.map f)=(prs l).map fun q=>(f q.1,f q.2)
 |[]=>rfl
 |x::l=>by simp only[prs,List.map_cons,List.map_append,Qu1 f l,List.map_map];rfl
theorem Qzz{α:Type}:∀{l:List α} {q:α×α},q∈prs l→q.1∈l∧q.2∈l
 |x::l,q,h=>by
  simp only[prs,List.mem_append,List.mem_map]at h;rcases h with⟨y,hy,rfl⟩|h
  ·exact⟨List.mem_cons_self ..,List.mem_cons_of_mem _ hy⟩
  ·obtain⟨h1,h2⟩:=Qzz h;exact⟨List.mem_cons_of_mem _ h1,List.mem_cons_of_mem _ h2⟩
theorem Zbk{α:Type}(r:α→Int):∀{l:List α},l.Pairwise (fun x y=>r x<r y)→(prs l).Pairwise fun p q=>r p.1<r q.1∨(r p.1=r q.1∧r p.2<r q.2)
 |[],_=>.nil
 |x::l,h=>by rw[List.pairwise_cons]at h;simp only[prs,List.pairwise_append,List.pairwise_map];refine⟨h.2.imp (fun h=>.inr ⟨trivial,h⟩),Zbk r h.2,fun p hp q hq=>?_⟩;obtain⟨y,hy,rfl⟩:=List.mem_map.1 hp;exact .inl (h.1 _ (Qzz hq).1)
theorem Qyl{α β:Type}(d:α)(f:α→α→Bool)(g:α→α→β):∀(l:List α),((List.range l.length).flatMap fun i=>((l.drop (i+1)).filter (f (l.getD i d))).map (g (l.getD i d)))=((prs l).filter fun q=>f q.1 q.2).map fun q=>g q.1 q.2
 |[]=>rfl
 |x::l=>by
  have ih:=Qyl d f g l;rw[List.length_cons,List.range_succ_eq_map,List.flatMap_cons,List.flatMap_map];have e:(fun a=>(((x::l).drop (a.succ+1)).filter (f ((x::l).getD a.succ d))).map (g ((x::l).getD a.succ d)))=fun i=>((l.drop (i+1)).filter (f (l.getD i d))).map (g (l.getD i d)):=by funext i;rfl
  rw[e,ih];simp only[prs,List.filter_append,List.map_append,List.filter_map,List.map_map];rfl
def nmP(q:Zv×Zv):BP:=(q.1.1,q.2.1)
theorem Qpx(m:Mt)(s:Qw):clS m s=((prs m.2.2.2.2).filter fun q=>clB s q.1.1 q.2.1).map nmP:=by unfold clS;exact Qyl dC (fun c d:Zv=>clB s c.1 d.1) (fun c d:Zv=>(c.1,d.1)) m.2.2.2.2
theorem Zkh(m:Mt)(s:Qw)(a:ByteArray):prs (J6 m s a)=((prs m.2.2.2.2).filter fun q=>inP s a q.1.1&&inP s a q.2.1).map nmP:=by unfold J6;rw[Qu1,Qn3];rfl
theorem Zb4(m:Mt)(s:Qw)(p:BP):(∃y∈s.2.1,p∈prs (J6 m s y.1))↔p∈clS m s:=by
 rw[Qpx];simp only[Zkh,List.mem_map,List.mem_filter,clB,List.any_eq_true];constructor
 ·rintro ⟨y,hy,q,⟨hq,hb⟩,e⟩
  exact⟨q,⟨hq,y,hy,hb⟩,e⟩
 ·rintro ⟨q,⟨hq,y,hy,hb⟩,e⟩
  exact⟨y,hy,q,⟨hq,hb⟩,e⟩
theorem Qzk{m:Mt}(hv:mtE m=0){i:Nat}(hi:i<m.2.2.2.2.length):Xu m.2.2.2.2 i=0:=by
 unfold mtE at hv;split at hv
 ·cases hv
 ·split at hv
  ·cases hv
  ·split at hv
   ·cases hv
   ·split at hv
    ·cases hv
    ·exact Uv hv _ (List.mem_map.2 ⟨i,List.mem_range.2 hi,rfl⟩)
theorem Qf4{m:Mt}(hv:mtE m=0){j:Nat}{y:Zv}(hj:m.2.2.2.2[j]? =some y):cI m y.1=j:=by
 have hlt:j<m.2.2.2.2.length:=(List.getElem?_eq_some_iff.1 hj).1;have first:∀{i:Nat} {x:Zv},m.2.2.2.2[i]? =some x→((m.2.2.2.2.take i).any fun z=>Qf z.1 x.1)=false:=fun{i x} hi=>by
  have h:=Qzk hv (List.getElem?_eq_some_iff.1 hi).1;unfold Xu at h;rw[getD_some hi]at h;split at h
  ·split at h
   ·cases h
   ·rename_i h3;exact Bool.eq_false_iff.2 h3
  ·cases h
 have hp:(fun z:Zv=>Qf z.1 y.1) y=true:=J8 _;have h1:=Ud (p:=fun z:Zv=>Qf z.1 y.1) hj hp;rw[first hj,decide_eq_false_iff_not]at h1
 have h0:0≤cI m y.1:=by unfold cI;have:=Qam (fun z:Zv=>Qf z.1 y.1) m.2.2.2.2;rw[List.any_eq_true.2 ⟨y,List.mem_of_getElem? hj,hp⟩,decide_eq_true_eq]at this;exact this
 obtain⟨k,x,e,hk,hx,hpx⟩:=Qfw h0;have e':cI m y.1=(k:Int):=e;have h1':¬cI m y.1<(j:Int):=h1;by_cases hjk:j<k
 ·have hh:=first hx
  have:((m.2.2.2.2.take k).any fun z=>Qf z.1 x.1)=true:=List.any_eq_true.2 ⟨y,List.mem_take_iff_getElem.2 ⟨j,by omega,(List.getElem?_eq_some_iff.1 hj).2⟩,by have:=X4.1 hpx;exact X4.2 this.symm⟩;rw[hh]at this;cases this
 ·omega
theorem Zhq{m:Mt}(hv:mtE m=0):m.2.2.2.2.Pairwise fun x y=>cI m x.1<cI m y.1:=by rw[List.pairwise_iff_getElem];intro i j hi hj hij;rw[Qf4 hv (List.getElem?_eq_getElem hi),Qf4 hv (List.getElem?_eq_getElem hj)];omega
theorem Zas{m:Mt}(hv:mtE m=0)(s:Qw):(clS m s).Pairwise fun p q=>cI m p.1<cI m q.1∨(cI m p.1=cI m q.1∧cI m p.2<cI m q.2):=by rw[Qpx,List.pairwise_map];exact(Zbk (fun c:Zv=>cI m c.1) (Zhq hv)).filter _
theorem Zl0{m:Mt}(hv:mtE m=0)(s:Qw):(clS m s).Nodup:=
 (Zas hv s).imp fun h e=>by subst e;omega
def eqP:BP→BP→Bool:=Qe.eqv (Qe.agg kt4)
theorem Qlu:Qom eqP:=fun a b=>⟨fun h=>Qe.eqv_ok (Qe.agg kt4) a b h,fun h=>by rw[h];exact Qe.eqv_rf (Qe.agg kt4) b⟩
def Xe(mp:List (BP×Bool))(q:BP):List (BP×Bool):=Ji eqP q true mp
theorem Qrd(q:BP):∀(l:List (BP×Bool)),(q∈l.map (·.1)∧(Xe l q).map (·.1)=l.map (·.1))∨(q∉l.map (·.1)∧(Xe l q).map (·.1)=l.map (·.1)++[q])
 |[]=>.inr ⟨by simp,by simp[Xe,Qu9]⟩
 |e::l=>by
  have ih:=Qrd q l;unfold Xe at ih⊢;rw[Qy8];by_cases h:eqP q e.1=true
  ·rw[if_pos h];have h':=(Qlu _ _).1 h;exact .inl ⟨by simp[h'],by simp[h']⟩
  ·rw[if_neg h];have h':q≠e.1:=fun x=>h ((Qlu _ _).2 x);rcases ih with⟨i1,i2⟩|⟨i1,i2⟩
   ·exact .inl ⟨by simp only[List.map_cons,List.mem_cons];exact .inr i1,by simp only[List.map_cons,i2]⟩
   ·refine .inr ⟨fun x=>?_,by simp only[List.map_cons,i2,List.cons_append]⟩;simp only[List.map_cons,List.mem_cons]at x;exact x.elim h' i1
theorem Qub:∀(ks:List BP) (l:List (BP×Bool)),(l.map (·.1)).Nodup→((ks.foldl Xe l).map (·.1)).Nodup∧∀p,p∈(ks.foldl Xe l).map (·.1)↔p∈l.map (·.1)∨p∈ks
 |[],l,h=>⟨h,fun p=>by simp⟩
 |q::ks,l,h=>by
  have hn:((Xe l q).map (·.1)).Nodup:=by
   rcases Qrd q l with⟨h1,h2⟩|⟨h1,h2⟩
   ·rw[h2];exact h
   ·rw[h2,List.nodup_append];exact⟨h,by simp,fun a ha b hb=>by rw[List.mem_singleton.1 hb];exact fun e=>h1 (e▸ha)⟩
  obtain⟨i1,i2⟩:=Qub ks (Xe l q) hn;refine⟨i1,fun p=>?_⟩;rw[List.foldl_cons,i2];rcases Qrd q l with⟨h1,h2⟩|⟨h1,h2⟩
  ·rw[h2,List.mem_cons];constructor
   ·rintro (h|h)
    ·exact .inl h
    ·exact .inr (.inr h)
   ·rintro (h|rfl|h)
    ·exact .inl h
    ·exact .inl h1
    ·exact .inr h
  ·rw[h2,List.mem_append,List.mem_singleton,List.mem_cons,or_assoc]
theorem Zb2:∀(ks:List BP) (l:List (BP×Bool)) (p:BP),Ym eqP p l false=true∨p∈ks→Ym eqP p (ks.foldl Xe l) false=true
 |[],l,p,h=>h.elim id (fun h=>by cases h)
 |q::ks,l,p,h=>by
  rw[List.foldl_cons];refine Zb2 ks _ p ?_;unfold Xe;rw[Qpz Qlu];by_cases e:eqP p q=true
  ·rw[if_pos e];exact .inl rfl
  ·rw[if_neg e];rcases h with h|h
   ·exact .inl h
   ·rcases List.mem_cons.1 h with rfl|h
    ·exact absurd ((Qlu _ _).2 rfl) e
    ·exact .inr h
def Qbk(m:Mt)(s:Qw):List (BP×Bool):=(s.2.1.flatMap fun y=>prs (J6 m s y.1)).foldl Xe []
theorem Zvm{m:Mt}(hv:mtE m=0)(s:Qw):(Qbk m s).length=(clS m s).length:=by
 obtain⟨h1,h2⟩:=Qub (s.2.1.flatMap fun y=>prs (J6 m s y.1)) [] (by simp);have hp:((Qbk m s).map (·.1)).Perm (clS m s):=(List.perm_ext_iff_of_nodup h1 (Zl0 hv s)).2 fun p=>by rw[←Zb4,h2];simp[List.mem_flatMap]
 have:=hp.length_eq;rwa[List.length_map]at this
theorem Zse{m:Mt}{s:Qw}{p:BP}(h:p∈clS m s):Ym eqP p (Qbk m s) false=true:=by refine Zb2 _ _ _ (.inr ?_);obtain⟨y,hy,hp⟩:=(Zb4 m s p).2 h;exact List.mem_flatMap.2 ⟨y,hy,hp⟩
theorem Qz8(L:List ByteArray):∀(l pre:List ByteArray) (mp:List (BP×Bool)),L=pre++l→(l.foldl (fun(q:List (BP×Bool)×Nat) x=>((L.drop (q.2+1)).foldl (fun mp y=>Xe mp (x,y)) q.1,q.2+1)) (mp,pre.length)).1=(prs l).foldl Xe mp
 |[],pre,mp,h=>rfl
 |x::l,pre,mp,h=>by
  have hd:L.drop (pre.length+1)=l:=by rw[h,List.drop_append,List.drop_eq_nil_of_le (by omega)];simp
  have ih:=Qz8 L l (pre++[x]) (l.foldl (fun mp y=>Xe mp (x,y)) mp) (by rw[h];simp);rw[List.length_append,List.length_singleton]at ih;rw[List.foldl_cons];simp only[hd];rw[ih,prs,List.foldl_append,List.foldl_map]
theorem Zjc{m:Mt}{s:Qw}(hv:stE m s=0){c:Zv}(hc:c∈m.2.2.2.2)(ht:0<c.2.2.2.2.2.2.2.2.2.2)(a:ByteArray):inP s a c.1=(s.2.2.2.2.filter fun t=>Qf t.2.1 c.1).any fun t=>hasB t.2.2 a:=by
 have hne:¬ 0≤eI s a c.1:=fun h=>by
  obtain⟨k,x,e,hk,hx,hp⟩:=Qfw h;obtain⟨p1,p2⟩:=Qp9.1 hp;have h0:=Qvr hv hk;unfold Jm at h0;rw[getD_some hx,p2]at h0;obtain⟨j,hj⟩:=List.getElem?_of_mem hc;have hca:cAt m c.1=c:=by unfold cAt;rw[Qf4 (Qa8 hv) hj];exact getD_some hj
  rw[hca]at h0;by_cases q:aI s x.1<0∨cI m c.1<0
  ·rw[if_pos q]at h0;cases h0
  ·rw[if_neg q,if_pos ht]at h0;cases h0
 unfold inP;rw[decide_eq_false hne,Bool.false_or,List.any_filter]
theorem Zts{m:Mt}{s:Qw}(hv:stE m s=0){c:Zv}(hc:c∈m.2.2.2.2)(ht:¬ 0<c.2.2.2.2.2.2.2.2.2.2)(h0:0≤c.2.2.2.2.2.2.2.2.2.2)(a:ByteArray):inP s a c.1=(Jk s c.1).any fun x=>Qf x.1 a:=by
 have hteam:(s.2.2.2.2.any fun t=>Qf t.2.1 c.1&&hasB t.2.2 a)=false:=by
  rw[List.any_eq_false];intro t htm hh;rw[Bool.and_eq_true]at hh;obtain⟨k,hk⟩:=List.getElem?_of_mem htm;have hlt:k<s.2.2.2.2.length:=(List.getElem?_eq_some_iff.1 hk).1;have e0:Jz m s k=0:=by
   have h1:=Qa8 hv;have h2:¬J9 s:=fun h=>by rw[stE,if_pos h1,if_pos h]at hv;exact absurd hv (by decide)
   have hv:=hv;rw[stE,if_pos h1,if_neg h2]at hv;have g:=Uv hv _ (List.mem_cons_of_mem _ (List.mem_cons_of_mem _ (List.mem_cons_of_mem _ (List.mem_cons_of_mem _ (List.mem_cons_self ..)))));exact Uv g _ (List.mem_map.2 ⟨k,List.mem_range.2 hlt,rfl⟩)
  unfold Jz at e0;rw[getD_some hk,X4.1 hh.1]at e0;obtain⟨j,hj⟩:=List.getElem?_of_mem hc;have hca:cAt m c.1=c:=by unfold cAt;rw[Qf4 (Qa8 hv) hj];exact getD_some hj
  rw[hca]at e0;by_cases q:hasB s.1 t.1=false∨cI m c.1<0
  ·rw[if_pos q]at e0;cases e0
  ·rw[if_neg q,if_pos (by omega)]at e0;cases e0
 unfold inP;rw[hteam,Bool.or_false];unfold eI;rw[Qam];have hm:∀x,x∈Jk s c.1↔x∈Vf s c.1:=fun x=>(Qn0 (Vf s c.1)).mem_iff;rw[Bool.eq_iff_iff,List.any_eq_true,List.any_eq_true];constructor
 ·rintro ⟨x,hx,hp⟩
  obtain⟨p1,p2⟩:=Qp9.1 hp;exact⟨x,(hm x).2 (List.mem_filter.2 ⟨hx,X4.2 p2⟩),X4.2 p1⟩
 ·rintro ⟨x,hx,hp⟩
  have:=List.mem_filter.1 ((hm x).1 hx);exact⟨x,this.1,Qp9.2 ⟨X4.1 hp,X4.1 this.2⟩⟩
end Go.Proofs.Tryz
section
namespace Go.Proofs.Tryz
open Go Go.Sx
end Go.Proofs.Tryz
end
namespace Go.Proofs.Tryz
open Go Go.Sx
noncomputable def Zsk(F:Nat):LK:=lC (Zjd F) (lC (Zi8 F) (lC (Zgy F) lN))
noncomputable def c51(F:Nat)(a:(Zi)×Qz):Option (Bool):=
 ((c17 F a.1).bind fun(v15:Bool)=>bif v15 then((c18 F a.2).bind fun(v16:Bool)=>bif v16 then((c26 F (a.1,a.2.1,a.2.2.1,a.2.2.2.1,a.2.2.2.2.1,a.2.2.2.2.2)).bind fun(v17:Int)=>some (decide (v17=0)))else(some (false)))else(some (false))).bind fun(v14:Bool)=>some (v14)
noncomputable def Zn4(F:Nat):PC:={ats:=Qd7,rts:=Yx,code:=c51 F}
theorem Zjf(F:Nat):Qg cx 51 (Zn4 F):=qE (Zsk F) (.two .leaf (.two (.join [(.normal,⟨[.slot 4 (.val (.bool))],[]⟩)] ⟨(4::kD 16 12 []),[],[]⟩ .leaf) .leaf)) f51 (by kernel_rfl) fun a=>by kernel_rfl
noncomputable def Zn0(F:Nat):LK:=lC (Zjf F) (lC (Zp6 F) (lC (Qt9 F) (lC (Zf6 F) (lC (Qi4 F) (lC (Zuq F) (lC (Qjp F) (lC (Qs4 F) (lC (Zx3 F) (lC (Zwn F) lN)))))))))
noncomputable def Qdw(F:Nat)(a:(Zi)×Qz)(x0:Zi)(x1:Qz):Option (Bool):=
 (c51 F (x0,x1.1,x1.2.1,x1.2.2.1,x1.2.2.2.1,x1.2.2.2.2)).bind fun(u2:Bool)=>bif !u2 then(some (true))else((c37 F (a.1,a.2.1,a.2.2.1,a.2.2.2.1,a.2.2.2.2.1,a.2.2.2.2.2)).bind fun(u3:List (ByteArray×ByteArray)×Int)=>bif !decide (u3.2=0)then(some (false))else((Qq (σ:=List ((ByteArray×ByteArray)×Bool)×Int) (β:=List ((ByteArray×ByteArray)×Bool)×Bool ⊕ List ((ByteArray×ByteArray)×Bool)) (fun(u4:List ((ByteArray×ByteArray)×Bool)×Int)=>bif decide (u4.2<(↑(a.2.2.1.length):Int))then(gd (decide (0≤u4.2)) (gd (decide (u4.2<(↑(a.2.2.1.length):Int))) (gd (decide (u4.2.toNat<a.2.2.1.length)) ((c36 F (a.1,a.2,(a.2.2.1.getD (u4.2.toNat) Xd).1)).bind fun(u5:List ByteArray×Int)=>bif !decide (u5.2=0)then(some (Sum.inr (Sum.inl (u4.1,false))))else((Qq (σ:=List ((ByteArray×ByteArray)×Bool)×Int) (β:=List ((ByteArray×ByteArray)×Bool)) (fun(u6:List ((ByteArray×ByteArray)×Bool)×Int)=>bif decide (u6.2<(↑(u5.1.length):Int))then(gd (decide (0≤u6.2)) (gd (decide (u6.2<(↑(u5.1.length):Int))) (gd (decide (u6.2.toNat<u5.1.length)) (gd (decide (0≤w64 (u6.2+1))) (gd (decide (w64 (u6.2+1)≤(↑(u5.1.length):Int))) (gd (decide ((↑(u5.1.length):Int)≤(↑(u5.1.length):Int))) ((Qq (σ:=List ((ByteArray×ByteArray)×Bool)×Int) (β:=List ((ByteArray×ByteArray)×Bool)) (fun(u7:List ((ByteArray×ByteArray)×Bool)×Int)=>bif decide (u7.2<(↑(List.length (List.drop (Int.toNat (w64 (u6.2+1))) (List.take (Int.toNat (↑(u5.1.length):Int)) u5.1))):Int))then(gd (decide (0≤u7.2)) (gd (decide (u7.2<(↑(List.length (List.drop (Int.toNat (w64 (u6.2+1))) (List.take (Int.toNat (↑(u5.1.length):Int)) u5.1))):Int))) (gd (decide (u7.2.toNat<List.length (List.drop (Int.toNat (w64 (u6.2+1))) (List.take (Int.toNat (↑(u5.1.length):Int)) u5.1)))) (some (Sum.inl (Ji (Qe.eqv (Qe.agg kt4)) (u5.1.getD (u6.2.toNat) ByteArray.empty,List.getD (List.drop (Int.toNat (w64 (u6.2+1))) (List.take (Int.toNat (↑(u5.1.length):Int)) u5.1)) (u7.2.toNat) ByteArray.empty) true u7.1,w64 (u7.2+1)))))))else(some (Sum.inr u7.1))) F ((u6.1,(0:Int)))).bind fun(u8:List ((ByteArray×ByteArray)×Bool))=>some (Sum.inl (u8,w64 (u6.2+1))))))))))else(some (Sum.inr u6.1))) F ((u4.1,(0:Int)))).bind fun(u9:List ((ByteArray×ByteArray)×Bool))=>(Qq (σ:=Int) (β:=Bool ⊕ Unit) (fun(u10:Int)=>bif decide (u10<(↑(a.1.2.2.2.2.length):Int))then(gd (decide (0≤u10)) (gd (decide (u10<(↑(a.1.2.2.2.2.length):Int))) (gd (decide (u10.toNat<a.1.2.2.2.2.length)) ((bif decide (0<(a.1.2.2.2.2.getD (u10.toNat) Q2).2.2.2.2.2.2.2.2.2.2)then((c70 F (a.1,a.2,(a.1.2.2.2.2.getD (u10.toNat) Q2).1)).bind fun(u11:List (Zh)×Int)=>bif !decide (u11.2=0)then(some (Sum.inl false))else((Qq (σ:=Bool×Int) (β:=Bool) (fun(u12:Bool×Int)=>bif decide (u12.2<(↑(u11.1.length):Int))then(gd (decide (0≤u12.2)) (gd (decide (u12.2<(↑(u11.1.length):Int))) (gd (decide (u12.2.toNat<u11.1.length)) ((bif u12.1 then(some (true))else((c54 F ((u11.1.getD (u12.2.toNat) (ByteArray.empty,ByteArray.empty,Qb ByteArray)).2.2,(a.2.2.1.getD (u4.2.toNat) Xd).1)).bind fun(u13:Bool)=>some (u13))).bind fun(u14:Bool)=>some (Sum.inl (u14,w64 (u12.2+1)))))))else(some (Sum.inr u12.1))) F ((false,(0:Int)))).bind fun(u15:Bool)=>some (Sum.inr u15)))else((c55 F (a.1,a.2,(a.1.2.2.2.2.getD (u10.toNat) Q2).1)).bind fun(u16:List (Qr)×Int)=>bif !decide (u16.2=0)then(some (Sum.inl false))else((Qq (σ:=Bool×Int) (β:=Bool) (fun(u17:Bool×Int)=>bif decide (u17.2<(↑(u16.1.length):Int))then(gd (decide (0≤u17.2)) (gd (decide (u17.2<(↑(u16.1.length):Int))) (gd (decide (u17.2.toNat<u16.1.length)) ((bif u17.1 then(some (true))else(some (Qf (u16.1.getD (u17.2.toNat) Zm).1 (a.2.2.1.getD (u4.2.toNat) Xd).1))).bind fun(u18:Bool)=>some (Sum.inl (u18,w64 (u17.2+1)))))))else(some (Sum.inr u17.1))) F ((false,(0:Int)))).bind fun(u19:Bool)=>some (Sum.inr u19)))).bind fun(u20:Bool ⊕ Bool)=>Sum.elim (fun(u21:Bool)=>some (Sum.inr (Sum.inl u21))) (fun(u22:Bool)=>(c54 F (u5.1,(a.1.2.2.2.2.getD (u10.toNat) Q2).1)).bind fun(u23:Bool)=>bif !u22==u23 then(some (Sum.inr (Sum.inl false)))else(some (Sum.inl (w64 (u10+1))))) (u20)))))else(some (Sum.inr (Sum.inr ())))) F ((0:Int))).bind fun(u24:Bool ⊕ Unit)=>Sum.elim (fun(u25:Bool)=>some (Sum.inr (Sum.inl (u9,u25)))) (fun(u26:Unit)=>some (Sum.inl (u9,w64 (u4.2+1)))) (u24))))))else(some (Sum.inr (Sum.inr u4.1)))) F ((Qb ((ByteArray×ByteArray)×Bool),(0:Int)))).bind fun(u27:List ((ByteArray×ByteArray)×Bool)×Bool ⊕ List ((ByteArray×ByteArray)×Bool))=>Sum.elim (fun(u28:List ((ByteArray×ByteArray)×Bool)×Bool)=>some u28.2) (fun(u29:List ((ByteArray×ByteArray)×Bool))=>(Qq (σ:=Int) (β:=Bool ⊕ Unit) (fun(u30:Int)=>bif decide (u30<(↑(u3.1.length):Int))then(gd (decide (0≤u30)) (gd (decide (u30<(↑(u3.1.length):Int))) (gd (decide (u30.toNat<u3.1.length)) ((bif !Ym (Qe.eqv (Qe.agg kt4)) (u3.1.getD (u30.toNat) (ByteArray.empty,ByteArray.empty)) u29 false then(some (true))else(bif decide (0<u30)then(gd (decide (0≤w64 (u30-1))) (gd (decide (w64 (u30-1)<(↑(u3.1.length):Int))) (gd (decide (Int.toNat (w64 (u30-1))<u3.1.length)) ((c47 F (x0,(u3.1.getD (Int.toNat (w64 (u30-1))) (ByteArray.empty,ByteArray.empty)).1)).bind fun(u31:Int)=>(c47 F (x0,(u3.1.getD (u30.toNat) (ByteArray.empty,ByteArray.empty)).1)).bind fun(u32:Int)=>bif decide (u32<u31)then(some (true))else(gd (decide (0≤w64 (u30-1))) (gd (decide (w64 (u30-1)<(↑(u3.1.length):Int))) (gd (decide (Int.toNat (w64 (u30-1))<u3.1.length)) (bif Qf (u3.1.getD (Int.toNat (w64 (u30-1))) (ByteArray.empty,ByteArray.empty)).1 (u3.1.getD (u30.toNat) (ByteArray.empty,ByteArray.empty)).1 then(gd (decide (0≤w64 (u30-1))) (gd (decide (w64 (u30-1)<(↑(u3.1.length):Int))) (gd (decide (Int.toNat (w64 (u30-1))<u3.1.length)) ((c47 F (x0,(u3.1.getD (Int.toNat (w64 (u30-1))) (ByteArray.empty,ByteArray.empty)).2)).bind fun(u33:Int)=>(c47 F (x0,(u3.1.getD (u30.toNat) (ByteArray.empty,ByteArray.empty)).2)).bind fun(u34:Int)=>some (decide (u34≤u33))))))else(some (false))))))))))else(some (false)))).bind fun(u35:Bool)=>bif u35 then(some (Sum.inr (Sum.inl false)))else(some (Sum.inl (w64 (u30+1))))))))else(some (Sum.inr (Sum.inr ())))) F ((0:Int))).bind fun(u36:Bool ⊕ Unit)=>Sum.elim (fun(u37:Bool)=>some (u37)) (fun(u38:Unit)=>(bif decide ((↑(u29.length):Int)=(↑(u3.1.length):Int))then(some (true))else(some (false))).bind fun(u39:Bool)=>some (u39)) (u36)) (u27)))
noncomputable def c14(F:Nat)(a:(Zi)×Qz):Option (Bool):=
 ((c15 F a.1).bind fun(v864:Zi)=>((c16 F a.2).bind fun(v1029:Qz)=>tw (X:=Bool) (Qx.eqv (Qe.val Ty.bool::Qb Qe)) (Qdw F a v864 v1029)).bind fun(v865:Bool)=>(tw (X:=Bool) (Qx.eqv (Qe.val Ty.bool::Qb Qe)) (tw (X:=Bool) (Qx.eqv (Qe.val Ty.bool::Qb Qe)) ((c16 F a.2).bind fun(v990:Qz)=>Qdw F a v864 v990))).bind fun(v866:Bool)=>gd (Qx.eqv (Qe.val Ty.bool::Qb Qe) v865 v866) (some (v865))).bind fun(v614:Bool)=>(tw (X:=Bool) (Qx.eqv (Qe.val Ty.bool::Qb Qe)) (((c15 F a.1).bind fun(v783:Zi)=>tw (X:=Bool) (Qx.eqv (Qe.val Ty.bool::Qb Qe)) ((c16 F a.2).bind fun(v825:Qz)=>Qdw F a v783 v825)).bind fun(v741:Bool)=>((c15 F a.1).bind fun(v743:Zi)=>(c16 F a.2).bind fun(v744:Qz)=>Qdw F a v743 v744).bind fun(v742:Bool)=>gd (Qx.eqv (Qe.val Ty.bool::Qb Qe) v741 v742) (some (v741)))).bind fun(v615:Bool)=>gd (Qx.eqv (Qe.val Ty.bool::Qb Qe) v614 v615) (some (v614))
noncomputable def Qs7(F:Nat):PC:={ats:=Qd7,rts:=Yx,code:=c14 F}
theorem Zwm(F:Nat):Qg cx 14 (Qs7 F):=qE (Zn0 F) (Q8 6 (.two (.two .leaf (.one (.loop ⟨[.map 4 (.agg kt4) (.val (.bool)),.slot 52 (.val (.int .i64))],[]⟩ [(.ret,⟨[.map 4 (.agg kt4) (.val (.bool)),.slot 4 (.val (.bool))],[]⟩),(.exit 0,⟨[.map 4 (.agg kt4) (.val (.bool))],[]⟩)] ⟨[155,52,57,58,59,60,61,56,62,63,12,13,66,67,68,87,73,74,75,76,77,78,86,82,83,84,85,17,81,80,79,15,14,72,71,70,69,92,93,94,19,95,96,97,124,125,126,127,128,123,129,130,25,26,133,134,135,147,139,140,141,142,143,144,145,146,28,138,137,136,132,131,106,107,111,112,113,24,121,120,119,118,117,116,115,114,122,110,109,108,22,21,105,104,98,103,102,101,100,99,153,152,151,150,149,148,20,154,91,90,89,88,4,65,64,11,55,54,53],[4],[]⟩ F (Q8 2 (.two (.one (Q8 3 (.two (.two .leaf (.one (.loop ⟨[.map 4 (.agg kt4) (.val (.bool)),.slot 68 (.val (.int .i64))],[]⟩ [(.exit 2,⟨[.map 4 (.agg kt4) (.val (.bool))],[]⟩)] ⟨[87,68,73,74,75,76,77,78,86,82,83,84,85,17,81,80,79,15,14,72,71,70,69],[4],[]⟩ F (Q8 2 (.two (.one (Q8 2 (.one (.loop ⟨[.map 4 (.agg kt4) (.val (.bool)),.slot 78 (.val (.int .i64))],[]⟩ [(.exit 4,⟨[.map 4 (.agg kt4) (.val (.bool))],[]⟩)] ⟨[86,78,82,83,84,85,17,81,80,79],[4],[]⟩ F .leaf)))) .leaf))))) (.two .leaf (.one (.loop ⟨[.slot 91 (.val (.int .i64))],[]⟩ [(.ret,⟨[.slot 4 (.val (.bool))],[]⟩),(.exit 6,⟨[],[]⟩)] ⟨(154::91::20::kU 148 6 (99::100::101::102::103::98::104::105::21::22::108::109::110::122::kU 114 8 (24::113::112::111::4::107::106::131::132::136::137::138::28::kD 146 8 (147::135::134::133::26::25::130::129::123::128::127::126::125::124::97::96::95::19::94::93::92::[])))),[],[]⟩ F (Q8 2 (.two (.one (Q8 2 (.two (.two .leaf (.join [(.ret,⟨[.slot 4 (.val (.bool))],[]⟩),(.normal,⟨[.slot 20 (.val (.bool))],[]⟩)] ⟨[124,125,126,127,128,123,129,130,25,26,133,134,135,147,139,140,141,142,143,144,145,146,28,138,137,136,132,131,106,107,4,111,112,113,24,20,121,120,119,118,117,116,115,114,122,110,109,108,22,21,105,104,98,103,102,101,100,99],[],[]⟩ (.two (Q8 3 (.one (.loop ⟨[.slot 20 (.val (.bool)),.slot 110 (.val (.int .i64))],[]⟩ [(.exit 8,⟨[.slot 20 (.val (.bool))],[]⟩)] ⟨(122::110::kU 114 8 (20::24::113::112::111::[])),[],[]⟩ F (Q8 2 (.two (.one (.two .leaf (.join [(.normal,⟨[.slot 20 (.val (.bool))],[]⟩)] ⟨(20::kD 121 8 []),[],[]⟩ .leaf))) .leaf))))) (Q8 3 (.one (.loop ⟨[.slot 20 (.val (.bool)),.slot 135 (.val (.int .i64))],[]⟩ [(.exit 10,⟨[.slot 20 (.val (.bool))],[]⟩)] ⟨(147::135::kU 139 8 (20::28::138::137::136::[])),[],[]⟩ F (Q8 2 (.two (.one (.two .leaf (.join [(.normal,⟨[.slot 20 (.val (.bool))],[]⟩)] ⟨(20::kD 146 8 []),[],[]⟩ .leaf))) .leaf)))))))) .leaf))) .leaf)))))))) .leaf))))) (.two (.two .leaf (.one (.loop ⟨[.slot 158 (.val (.int .i64))],[]⟩ [(.ret,⟨[.slot 4 (.val (.bool))],[]⟩),(.exit 12,⟨[],[]⟩)] ⟨(212::158::kU 163 49 (4::29::30::162::161::160::159::[])),[],[]⟩ F (Q8 2 (.two (.one (.two .leaf (.two (.join [(.normal,⟨[.slot 211 (.val (.bool))],[]⟩)] ⟨(kD 211 49 []),[],[]⟩ .leaf) .leaf))) .leaf))))) (.two (.join [(.normal,⟨[.slot 4 (.val (.bool))],[]⟩)] ⟨(4::kD 220 8 []),[],[]⟩ .leaf) .leaf)))) f14 (by kernel_rfl) fun a=>by kernel_rfl
end Go.Proofs.Tryz
