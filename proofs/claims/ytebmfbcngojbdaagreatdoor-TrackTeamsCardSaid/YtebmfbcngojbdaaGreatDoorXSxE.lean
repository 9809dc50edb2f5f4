/- Part E of the own logic: load and store. Part F of the own logic: what lays new memory. And further parts. -/
import Derived.Test.YtebmfbcngojbdaaGreatDoorXSxA
import Derived.Great.BuildSlice
import Derived.Laws.MakeOwn
import Derived.Lib.AppendZeros
set_option linter.unusedVariables false
set_option linter.unusedSimpArgs false
namespace Go.Sx
open Go
def Qa.Qx:Qa→Option Nat
 |.vec _ sz _=>some sz
 |.tvec _ row _=>some row.length
 |.mix _ sz _=>some sz
 |.tlnk _ row _ _ _ _=>some row.length
 |_=>none
def Qa.len:Qa→Nat
 |.vec _ _ rows=>rows.length
 |.tvec _ _ l=>l.length
 |.mix _ _ rows=>rows.length
 |.tlnk _ _ l _ _ _=>l.length
 |.nest _ _ _ ll _=>ll.length
 |_=>0
def Qa.szl:Qa→Option Nat
 |.vec _ sz _=>some sz
 |.tvec _ row _=>some row.length
 |.mix _ sz _=>some sz
 |.tlnk _ row _ _ _ _=>some row.length
 |.nest _ _ _ _ _=>some 1
 |_=>none
theorem Qa.Qzv{o:Qa}{sz:Nat}(h:o.Qx =some sz):o.szl=some sz:=by cases o<;>first|exact h|cases h
def Qa.row:Qa→Nat→List SV
 |.vec _ _ rows,r=>(rows.getD r []).map .pv
 |.tvec _ row l,r=>(Q3 row (l.getD r (Els.Zx row))).map .pv
 |.mix _ _ rows,r=>rows.getD r []
 |.tlnk _ row l r0 c x,r=>if r=r0 then((Q3 row (l.getD r (Els.Zx row))).map .pv).set c x else(Q3 row (l.getD r (Els.Zx row))).map .pv
 |_,_=>[]
def Qa.fits:Qa→Nat→Bool
 |.tlnk _ _ _ r0 _ _,r=>decide (r=r0)
 |_,_=>true
def Qa.rowAt:Qa→Nat→List SV
 |.vec _ _ rows,r=>(rows.getD r []).map .pv
 |.tvec _ row l,r=>(Q3 row (l.getD r (Els.Zx row))).map .pv
 |.mix _ _ rows,r=>rows.getD r []
 |.tlnk _ row l _ c x,r=>((Q3 row (l.getD r (Els.Zx row))).map .pv).set c x
 |_,_=>[]
theorem Qnz{o:Qa}{r:Nat}(h:o.fits r=true):o.rowAt r=o.row r:=by
 cases o with
 |tlnk ty row l r0 c x=>have e:r=r0:=of_decide_eq_true h;simp only[Qa.rowAt,Qa.row,if_pos e]
 |_=>rfl
theorem Qml{row:List Ty}{l:List (Els row)}{ty r c i j:Nat}{x y:SV}(hi:i<l.length):Y1 row l r c x i j=some y↔((Qa.tlnk ty row l r c x).row i)[j]? =some y:=by
 have e:=U0 (row:=row) hi;have hi2:i<(Qu row l).length:=by simpa[Qu]using hi
 have ev:Zj (Qu row l) i j=((Q3 row (l.getD i (Els.Zx row))).map SV.pv)[j]? :=by rw[←e];simp only[Zj,List.getElem?_eq_getElem hi2,Option.bind_some,List.getD,Option.getD_some,List.getElem?_map]
 unfold Y1;rw[ev];simp only[Qa.row];by_cases hir:i=r
 ·rw[if_pos hir,List.getElem?_set];by_cases hjc:j=c
  ·subst hjc;simp only[hir,true_and,if_true,List.length_map];subst hir;by_cases hj:j<(Q3 row (l.getD i (Els.Zx row))).length
   ·rw[if_pos hj,List.getElem?_eq_getElem (by simpa using hj)];rfl
   ·rw[if_neg hj,List.getElem?_eq_none (by simpa using Nat.le_of_not_lt hj)];exact Iff.rfl
  ·rw[if_neg (fun h=>hjc h.symm)];simp only[hjc,and_false,if_false,Option.map_id']
 ·rw[if_neg hir];simp only[hir,false_and,if_false,Option.map_id']
def norm(szp i j szo:Nat):Nat×Nat:=if szp=szo then(i,j)else((i*szp+j)/szo,(i*szp+j)%szo)
theorem norm_eq(szp i j szo:Nat):(norm szp i j szo).1*szo+(norm szp i j szo).2=i*szp+j:=by
 unfold norm;split
 ·rename_i h;subst h;rfl
 ·exact Nat.div_add_mod' _ _
structure Vz (M:Qc) (ρ:Env) (w:World) (s:Nat) (o:Qa) (sz:Nat) (p:Place):Prop where
 ex:∃cs ty,w.heap[p.block]? =some (.cells cs ty (0,0))∧p.cap≤cs.size∧o.len*sz≤p.cap∧
  (∀i j,i<o.len→j<sz→∃v,cs[i*sz+j]? =some v∧Xd v=true)∧
  (∀i j x,i<o.len→(o.row i)[j]? =some x→j<sz∧∀v,cs[i*sz+j]? =some v→Qe M ρ v x)
theorem Qy.rowOf{M:Qc}{ρ:Env}{w:World}{s:Nat}{o:Qa}{sz:Nat}{p:Place}(h:Qy M ρ w s o)(hz:o.Qx =some sz)(hp:ρ s=some p):Vz M ρ w s o sz p:=by
 cases o with
 |vec ty sz' rows=>
  simp[Qa.Qx]at hz;subst hz;rcases h with⟨h1,_⟩|⟨q,h1,h2⟩
  ·rw[hp]at h1;cases h1
  ·rw[hp]at h1;cases h1;obtain⟨cs,a1,a2,a3,a4,a5,a6⟩:=h2.ex;refine⟨cs,ty,a1,a2,a3,a4,fun i j x hi hx=>?_⟩;have hx':Zj rows i j=some x:=by simp only[Qa.row,List.getElem?_map]at hx;have hi':i<rows.length:=hi;simp[Zj,hi',List.getD]at hx⊢;exact hx
   exact⟨(a6 i j x hx').2,fun v hv=>(a5 i j x v hx' hv).2.2⟩
 |tvec ty row l=>
  simp[Qa.Qx]at hz;subst hz;rcases h with⟨h1,_⟩|⟨q,h1,h2⟩
  ·rw[hp]at h1;cases h1
  ·rw[hp]at h1;cases h1;obtain⟨cs,a1,a2,a3,a4,a5,a6⟩:=h2.ex;have hlen:(Qu row l).length=l.length:=by simp[Qu]
   rw[hlen]at a3;refine⟨cs,ty,a1,a2,a3,fun i j hi hj=>a4 i j (by rw[hlen];exact hi) hj,fun i j x hi hx=>?_⟩;have hx':Zj (Qu row l) i j=some x:=by
    have hi':i<l.length:=hi;have e:=U0 (row:=row) hi';simp only[Qa.row,List.getElem?_map]at hx;rw[←e]at hx;have hi2:i<(Qu row l).length:=by rw[hlen];exact hi'
    simp only[Zj,List.getElem?_eq_getElem hi2,Option.bind_some];simp only[List.getD,List.getElem?_eq_getElem hi2,Option.getD_some]at hx;exact hx
   exact⟨(a6 i j x hx').2,fun v hv=>(a5 i j x v hx' hv).2.2⟩
 |tlnk ty row l r c y=>
  simp[Qa.Qx]at hz;subst hz;rcases h with⟨h1,_⟩|⟨q,h1,h2⟩
  ·rw[hp]at h1;cases h1
  ·rw[hp]at h1;cases h1;obtain⟨cs,a1,a2,a3,a4,a5,a6⟩:=h2.ex;have hlen:(Qu row l).length=l.length:=by simp[Qu]
   rw[hlen]at a3;refine⟨cs,ty,a1,a2,a3,fun i j hi hj=>a4 i j (by rw[hlen];exact hi) hj,fun i j x hi hx=>?_⟩;have hx':Y1 row l r c y i j=some x:=(Qml hi).2 hx;exact⟨(a6 i j x hx').2,fun v hv=>(a5 i j x v hx' hv).2.2⟩
 |mix ty sz' rows=>
  simp[Qa.Qx]at hz;subst hz;rcases h with⟨h1,_⟩|⟨q,h1,h2⟩
  ·rw[hp]at h1;cases h1
  ·rw[hp]at h1;cases h1;obtain⟨cs,a1,a2,a3,a4,a5,a6⟩:=h2.ex;refine⟨cs,ty,a1,a2,a3,a4,fun i j x hi hx=>?_⟩;have hx':Yg rows i j=some x:=by simp only[Qa.row]at hx;have hi':i<rows.length:=hi;simp[Yg,hi',List.getD]at hx⊢;exact hx
   exact⟨(a6 i j x hx').2,fun v hv=>(a5 i j x v hx' hv).2.2⟩
 |map es c=>simp[Qa.Qx]at hz
 |nest _ _ _ _ _=>simp[Qa.Qx]at hz
 |tmap k v l=>simp[Qa.Qx]at hz
 |iter a b=>simp[Qa.Qx]at hz
 |loop a=>simp[Qa.Qx]at hz
 |over a b=>simp[Qa.Qx]at hz
 |mit a b c=>simp[Qa.Qx]at hz
 |dfr a=>simp[Qa.Qx]at hz
 |dead=>simp[Qa.Qx]at hz
theorem U9{o:Qa}{sz:Nat}(h:o.Qx =some sz):o.live=true:=by cases o<;>simp[Qa.Qx]at h<;>rfl
def Jx(i:TI)(n:Nat)(row:List SV)(r j:Nat):Qn:=
 .need (decide (r<n)) <| if i.desc.isRow then .need (decide (j+i.size≤row.length)) (.ok (.Yd ((row.drop j).take i.size)))else .need (decide (j<row.length)) (.ok (row.getD j .any))
def Qba(i:TI)(o:Qa)(sz r j:Nat):Qn:=match o with
 |.nest _ _ _ _ (some q)=>match i.desc.isRow with
  |true=>.fail
  |false=>.need (Nat.beq (norm sz r j 1).2 0) <| .need (decide ((norm sz r j 1).1=q.1)) (.ok q.2)
 |_=>.fail
def Ka(tab:Qo)(H:List Qa)(t:Nat)(a:SV):Qn:=
 match tab.lookup t with
 |none=>.fail
 |some i=>match a with
  |.ptr s sz r j=>match H[s]? with
   |none=>.fail
   |some o=>match o.Qx with
    |none=>Qba i o sz r j
    |some szo=>.need (o.fits (norm sz r j szo).1) (Jx i o.len (o.rowAt (norm sz r j szo).1) (norm sz r j szo).1 (norm sz r j szo).2)
  |.pv (.rptr sz rows r j)=>Jx i rows.length ((rows.getD r []).map .pv) r j
  |.pv (.tptr row l r j)=>Jx i l.length ((Q3 row (l.getD r (Els.Zx row))).map .pv) r j
  |_=>.fail
theorem Qzg{P:Program}{w:World}{b o:Nat}{t:TypeId}{i:TI}(ht:Yf P t i)(hr:i.desc.isRow=true)(cs:List Value)(hl:cs.length=i.size)
  (hc:∀(j:Nat) (v:Value),cs[j]? =some v→w.cell? ⟨b,o+j,none⟩=some v):(loadVar t ⟨b,o,none⟩).run P w=.ok (.agg cs.toArray) w:=by
 obtain⟨n,hn,h1,_⟩:=ht.inf;exact run_loadVar_mid w b o t cs i.desc hc ht.und hr (by simp[hn,h1,hl])
theorem Qf1{P:Program}{w:World}{a:Addr}{t:TypeId}{i:TI}(ht:Yf P t i)(hr:i.desc.isRow=false){v:Value}(hc:w.cell? a=some v):(loadVar t a).run P w=.ok v w:=by
 have hagg:(isAgg t).run P w=.ok false w:=by unfold isAgg;rw[Sem.run_bind,run_underlying ht.und w];generalize i.desc=d at hr;cases d<;>simp_all [TypeDesc.isRow]
 simp[loadVar,Sem.run_bind,hagg,hc]
theorem Qwy{P:Program}{M:Qc}{ρ:Env}{H:List Qa}{w:World}{K:Qr}{t:TypeId}{i:TI}(ht:Yf P t i)(hm:Mem M ρ H w){b o n r j sz:Nat}{row:List SV}
  (hrow:r<n→∀k x,row[k]? =some x→∃v,w.cell? ⟨b,o+r*sz+k,none⟩=some v∧Qe M ρ v x)
  (h:(Jx i n row r j).holds H K):Qv P (Instr.loadAt t (.pointer (some ⟨b,o+r*sz+j,none⟩))) M ρ H w K:=by
 simp only[Jx,Qn.holds,decide_eq_true_eq]at h;obtain⟨hr,h⟩:=h;have hrow:=hrow hr;split at h
 ·rename_i hd;simp only[Qn.holds,decide_eq_true_eq]at h;obtain⟨hj,hk⟩:=h;have hex:∀k,k<i.size→∃v,w.cell? ⟨b,o+r*sz+(j+k),none⟩=some v∧Qe M ρ v (row.getD (j+k) .any):=fun k hk=>by
   have hlt:j+k<row.length:=by omega
   obtain⟨v,h1,h2⟩:=hrow (j+k) row[j+k] (by simp[hlt]);exact⟨v,h1,by simpa[List.getD,hlt]using h2⟩
  let f:Nat→Value:=fun k=>if h:k<i.size then Classical.choose (hex k h)else undef;have hf:∀k,k<i.size→w.cell? ⟨b,o+r*sz+(j+k),none⟩=some (f k)∧Qe M ρ (f k) (row.getD (j+k) .any):=fun k hk=>by simp only[f,dif_pos hk];exact Classical.choose_spec (hex k hk)
  have hcs:∀(k:Nat) (v:Value),((List.range i.size).map f)[k]? =some v→k<i.size∧v=f k:=fun k v hv=>by simp only[List.getElem?_map,Option.map_eq_some_iff]at hv;obtain⟨m,hm',rfl⟩:=hv;obtain⟨h1,h2⟩:=List.getElem?_eq_some_iff.1 hm';simp at h1 h2;subst h2;exact⟨h1,rfl⟩
  refine Qv.same hm (v:=.agg ((List.range i.size).map f).toArray) ?_ ?_ hk
  ·simp only[Instr.loadAt,Instr.sureAddr,Sem.run_bind,Sem.run_pure,Result.andThen_ok];exact Qzg ht hd _ (by simp) fun k v hv=>by obtain⟨h1,rfl⟩:=hcs k v hv;rw[Nat.add_assoc (o+r*sz)];exact(hf k h1).1
  ·refine Qe.Yd (by simp;omega) fun k v x hv hx=>?_;obtain⟨h1,rfl⟩:=hcs k v hv;have h2:=(hf k h1).2;rw[List.getElem?_take]at hx;simp only[h1,if_true,List.getElem?_drop]at hx;simpa[List.getD,hx]using h2
 ·rename_i hd;simp only[Qn.holds,decide_eq_true_eq]at h;obtain⟨hj,hk⟩:=h;obtain⟨v,h1,h2⟩:=hrow j row[j] (by simp[hj]);refine Qv.same hm (v:=v) ?_ ?_ hk
  ·simp only[Instr.loadAt,Instr.sureAddr,Sem.run_bind,Sem.run_pure,Result.andThen_ok];exact Qf1 ht (by simpa using hd) h1
  ·simpa[List.getD,hj]using h2
theorem Qc.Qp5{M:Qc}{ρ:Env}{H:List Qa}{w:World}(hm:Mem M ρ H w){b k:Nat}{v:Value}(h:M.cell b k=some v):w.cell? ⟨b,k,none⟩=some v:=by
 unfold Qc.cell at h;cases e:M b with
 |none=>simp[e]at h
 |some o=>rw[e]at h;have:=hm.imm b o e;unfold World.cell?;simp only[this];cases o<;>simp_all
theorem Qye{P:Program}{M:Qc}{ρ:Env}{H:List Qa}{w:World}{K:Qr}{t:TypeId}{i:TI}(ht:Yf P t i)(hm:Mem M ρ H w){sz r j:Nat}{rows:List (List PV)}{v:Value}(hp:Q6 M v (.rptr sz rows r j))
  (h:(Jx i rows.length ((rows.getD r []).map .pv) r j).holds H K):Qv P (Instr.loadAt t v) M ρ H w K:=by
 cases hp with
 |rptr b off _ _ _ k _ hk h0 h1 h2=>rw[hk];refine Qwy ht hm (fun hr k x hx=>?_) h;simp only[List.getElem?_map,Option.map_eq_some_iff]at hx;obtain⟨q,hq,rfl⟩:=hx;simp[List.getD,hr]at hq;have hk2:k<sz:=Nat.lt_of_lt_of_le (List.getElem?_eq_some_iff.1 hq).1 (h2 r rows[r] (by simp[hr]));obtain⟨u,hu,_⟩:=h0 r k hr hk2;exact⟨u,Qc.Qp5 hm hu,.pv (h1 r rows[r] k q u (by simp[hr]) hq hu)⟩
theorem Qu1{H:List Qa}{K:Qr}{i:TI}{row:List Ty}{l:List (Els row)}{r j:Nat}(h:(Jx i l.length ((Q3 row (l.getD r (Els.Zx row))).map .pv) r j).holds H K):
  (Jx i (Qu row l).length (((Qu row l).getD r []).map .pv) r j).holds H K:=by
 obtain⟨h1,h2⟩:=h;have hlt:r<l.length:=of_decide_eq_true h1;refine⟨by simpa[Qu]using hlt,?_⟩;rw[U0 hlt];exact h2
theorem Zaz{P:Program}{M:Qc}{ρ:Env}{H:List Qa}{w:World}{K:Qr}{t:TypeId}{i:TI}(ht:Yf P t i)(hm:Mem M ρ H w){s sz r j:Nat}{o:Qa}(ho:H[s]? =some o){v:Value}(ha:Qe M ρ v (.ptr s sz r j))
  (h:(Qba i o sz r j).holds H K):Qv P (Instr.loadAt t v) M ρ H w K:=by
 unfold Qba at h;split at h
 ·rename_i ty ity row ll q;split at h
  ·exact h.elim
  ·rename_i hd;obtain⟨hc,hc2,h⟩:=h;have e1:=Nat.eq_of_beq_eq_true hc;have e2:=of_decide_eq_true hc2;cases ha with
   |ptr _ _ _ _ k p hp hk=>
    obtain⟨p',hp',hn⟩:∃p',ρ s=some p'∧Kl M ρ w p' ty ity row ll (some q):=by
     rcases hm.own s _ ho with⟨_,_,h3⟩|h3
     ·cases h3
     ·exact h3
    rw[hp]at hp';cases hp';obtain⟨cs,bl,a1,a2,a3,a4,a5,a6,a7,a8⟩:=hn.ex;obtain⟨q1,q2⟩:=q;have hk':k=q1:=by have:=norm_eq sz r j 1;rw[e1,e2]at this;simp only[Nat.mul_one,Nat.add_zero]at this;omega
    obtain⟨b1,b2⟩:=a6 q1 q2 rfl;obtain⟨u,hu,_⟩:=a4 q1 b1;refine Qv.same hm (v:=u) ?_ (b2 u hu) h;simp only[Instr.loadAt,Instr.sureAddr,Sem.run_bind,Sem.run_pure,Result.andThen_ok];exact Qf1 ht hd (by rw[hk'];simp[World.cell?,a1,hu])
 ·exact h.elim
theorem Zpb{P:Program}{tab:Qo}(htab:Qf P tab){M:Qc}{ρ:Env}{H:List Qa}{w:World}{K:Qr}(hm:Mem M ρ H w){t:TypeId}{a:SV}{v:Value}(ha:Qe M ρ v a)
  (h:(Ka tab H t a).holds H K):Qv P (Instr.loadAt t v) M ρ H w K:=by
 unfold Ka at h;split at h
 ·exact h.elim
 ·rename_i i hi;have ht:=htab.get hi;split at h
  ·rename_i s sz r j;split at h
   ·exact h.elim
   ·rename_i o ho;split at h
    ·exact Zaz ht hm ho ha h
    ·rename_i szo hz;cases ha with
     |ptr _ _ _ _ k p hp hk=>
      obtain⟨cs,ty,a1,a2,a3,a4,a5⟩:=((hm.own s o ho).rowOf hz hp).ex;have hk':k=0+(norm sz r j szo).1*szo+(norm sz r j szo).2:=by rw[Nat.zero_add,norm_eq];exact hk
      rw[hk'];obtain⟨hfit,h⟩:=h;rw[Qnz hfit]at h;refine Qwy ht hm (fun hr k x hx=>?_) h;obtain⟨b1,b2⟩:=a5 _ k x hr hx;obtain⟨u,hu,_⟩:=a4 _ k hr b1;exact⟨u,by simp[World.cell?,a1,hu],b2 u hu⟩
  ·rename_i sz rows r j;cases ha with
   |pv hp=>exact Qye ht hm hp h
  ·rename_i row l r j;cases ha with
   |pv hp=>cases hp with
    |tptr _ _ _ _ hp=>exact Qye ht hm hp (Qu1 h)
  ·exact h.elim
def Js:List SV→Option (List PV)
 |[]=>some []
 |.pv p::r=>(Js r).map (p::·)
 |_=>none
theorem Kd:∀{l:List SV} {ps:List PV},Js l=some ps→l=ps.map .pv
 |[],ps,h=>by simp[Js]at h;subst h;rfl
 |x::l,ps,h=>by
  match x,h with
  |.pv p,h=>simp only[Js,Option.map_eq_some_iff]at h;obtain⟨r,hr,rfl⟩:=h;simp[Kd hr]
def Qwx(row:List Ty)(xs:List (Els row))(r j:Nat)(l:List SV):Option (Els row):=match Js l with
 |some ps=>ofRow row ((Q3 row (xs.getD r (Els.Zx row))).take j++ps++(Q3 row (xs.getD r (Els.Zx row))).drop (j+ps.length))
 |none=>none
def Qa.write(o:Qa)(r j:Nat)(l:List SV):Qa:=
 match o with
 |.vec ty sz rows=>match Js l with
  |some ps=>.vec ty sz (rows.set r ((rows.getD r []).take j++ps++(rows.getD r []).drop (j+ps.length)))
  |none=>.mix ty sz ((rows.map (·.map .pv)).set r (((rows.getD r []).map .pv).take j++l++((rows.getD r []).map .pv).drop (j+l.length)))
 |.tvec ty row xs=>match Qwx row xs r j l with
  |some x=>.tvec ty row (xs.set r x)
  |none=>.mix ty row.length (((Qu row xs).map (·.map .pv)).set r (((Q3 row (xs.getD r (Els.Zx row))).map .pv).take j++l++((Q3 row (xs.getD r (Els.Zx row))).map .pv).drop (j+l.length)))
 |.mix ty sz rows=>.mix ty sz (rows.set r ((rows.getD r []).take j++l++(rows.getD r []).drop (j+l.length)))
 |.tlnk ty row xs r0 c x=>match l with
  |[y]=>match Nat.beq j c with
   |true=>.tlnk ty row xs r0 c y
   |false=>.mix ty row.length (List.replicate xs.length (List.replicate row.length .any))
  |_=>.mix ty row.length (List.replicate xs.length (List.replicate row.length .any))
 |o=>o
def Qpj(H:List Qa)(s:Nat)(o:Qa)(sz r j:Nat)(l:List SV):Qn:=match o,l with
 |.nest ty ity row ll (some q),[x]=>.need x.known <| .need (Nat.beq (norm sz r j 1).2 0) <| .need (decide ((norm sz r j 1).1=q.1)) (.eff .any (H.set s (.nest ty ity row ll (some (q.1,x)))) [s] [])
 |_,_=>.fail
def Qep(tab:Qo)(H:List Qa)(t:Nat)(a v:SV):Qn:=
 match tab.lookup t with
 |none=>.fail
 |some i=>match v.parts i.size with
  |none=>.fail
  |some l=>match a with
   |.ptr s sz r j=>match H[s]? with
    |none=>.fail
    |some o=>match o.Qx with
     |none=>Qpj H s o sz r j l
     | some szo=>.need (l.all SV.known) <| .need (decide ((norm sz r j szo).1 < o.len)) <| .need (o.fits (norm sz r j szo).1) <| .need (decide ((norm sz r j szo).2 + l.length ≤ (o.rowAt (norm sz r j szo).1).length)) <|
       .eff .any (H.set s (o.write (norm sz r j szo).1 (norm sz r j szo).2 l)) [s] []
   |_=>.fail
theorem Zdd(o:Qa){sz:Nat}(hz:o.Qx =some sz){r j:Nat}{l:List SV}(hr:r<o.len)(hf:o.fits r=true)(hj:j+l.length≤(o.row r).length):
  (o.write r j l).Qx =some sz∧(o.write r j l).len=o.len∧
  (∀i,i<o.len→∀(c:Nat) (y:SV),((o.write r j l).row i)[c]? =some y→∃y',(if i=r then(o.row r).take j++l++(o.row r).drop (j+l.length)else o.row i)[c]? =some y'∧∀M ρ v,Qe M ρ v y'→Qe M ρ v y):=by
 have same:∀(A B:List SV),A=B→∀(c:Nat) (y:SV),A[c]? =some y→∃y',B[c]? =some y'∧∀M ρ v,Qe M ρ v y'→Qe M ρ v y:=fun A B e c y h=>⟨y,e▸h,fun _ _ _ h=>h⟩;cases o with
 |vec ty sz' rows=>
  simp[Qa.Qx]at hz;subst hz;have hr':r<rows.length:=hr;refine⟨?_,?_,fun i hi=>same _ _ ?_⟩
  ·simp only[Qa.write];split<;>rfl
  ·simp only[Qa.write];split<;>simp[Qa.len]
  ·have hi':i<rows.length:=hi;simp only[Qa.write];split
   ·rename_i ps hps;have e:=Kd hps;subst e;simp only[Qa.row];by_cases hir:i=r
    ·subst hir;simp[hr',List.getD,List.getElem?_set,List.map_take,List.map_drop]
    ·simp[hir,List.getD,List.getElem?_set,fun h=>hir (Eq.symm h)];rw[if_neg (fun h=>hir h.symm)]
   ·simp only[Qa.row];by_cases hir:i=r
    ·subst hir;simp[hr',List.getD,List.getElem?_set]
    ·simp[hir,List.getD,hi'];rw[List.getElem_set_ne (fun e=>hir e.symm)];simp
 |tvec ty row xs=>
  simp[Qa.Qx]at hz;subst hz;have hr':r<xs.length:=hr;simp only[Qa.write];split
  ·rename_i x hx;refine⟨rfl,by simp[Qa.len],fun i hi c y hy=>?_⟩;have hi':i<xs.length:=hi;unfold Qwx at hx;split at hx
   ·rename_i ps hps;have e:=Kd hps;subst e;obtain⟨g1,g2⟩:=Kk hx;simp only[Qa.row]at hy⊢;by_cases hir:i=r
    ·subst hir;simp only[if_true];have e2:(xs.set i x).getD i (Els.Zx row)=x:=by simp[List.getD,hr']
     rw[e2,List.getElem?_map,Option.map_eq_some_iff]at hy;obtain⟨q,hq,rfl⟩:=hy;obtain⟨p,hp,himp⟩:=g2 c q hq;refine⟨.pv p,?_,fun M ρ v h=>?_⟩
     ·have:(List.take i (List.map SV.pv (Q3 row (xs.getD i (Els.Zx row))))=List.map SV.pv (List.take i (Q3 row (xs.getD i (Els.Zx row))))):=by simp[List.map_take]
      simp only[←List.map_take,←List.map_drop,←List.map_append,List.length_map,List.getElem?_map,hp,Option.map_some]
     ·cases h with
      |pv h=>exact .pv (himp _ _ h)
    ·rw[if_neg hir];have e2:(xs.set r x).getD i (Els.Zx row)=xs.getD i (Els.Zx row):=by simp only[List.getD,List.getElem?_set];rw[if_neg (fun h=>hir h.symm)]
     rw[e2]at hy;exact⟨y,hy,fun _ _ _ h=>h⟩
   ·cases hx
  ·refine⟨rfl,by simp[Qa.len,Qu],fun i hi=>same _ _ ?_⟩;have hi':i<xs.length:=hi;simp only[Qa.row];by_cases hir:i=r
   ·subst hir;simp[hr',List.getD,List.getElem?_set,Qu]
   ·simp[hir,List.getD,hi',Qu];rw[List.getElem_set_ne (fun e=>hir e.symm)];simp
 |tlnk ty row xs r0 c x=>
  simp[Qa.Qx]at hz;subst hz;have hr':r<xs.length:=hr;have e0:r=r0:=of_decide_eq_true hf;have hrl:∀i,((Qa.tlnk ty row xs r0 c x).row i).length=row.length:=fun i=>by simp only[Qa.row];split<;>simp[Xw]
  have hmix:Qa.Qx (.mix ty row.length (List.replicate xs.length (List.replicate row.length .any)))=some row.length∧Qa.len (.mix ty row.length (List.replicate xs.length (List.replicate row.length .any)))=(Qa.tlnk ty row xs r0 c x).len∧
    (∀i,i<(Qa.tlnk ty row xs r0 c x).len→∀(d:Nat) (y:SV),((Qa.mix ty row.length (List.replicate xs.length (List.replicate row.length .any))).row i)[d]? =some y→∃y',(if i=r then((Qa.tlnk ty row xs r0 c x).row r).take j++l++((Qa.tlnk ty row xs r0 c x).row r).drop (j+l.length)else(Qa.tlnk ty row xs r0 c x).row i)[d]? =some y'∧∀M ρ v,Qe M ρ v y'→Qe M ρ v y):=by
   refine⟨rfl,by simp[Qa.len],fun i hi d y hy=>?_⟩;have hi':i<xs.length:=hi;have hlen:(if i=r then((Qa.tlnk ty row xs r0 c x).row r).take j++l++((Qa.tlnk ty row xs r0 c x).row r).drop (j+l.length)else(Qa.tlnk ty row xs r0 c x).row i).length=row.length:=by
    split
    ·have h1:=hrl r;rw[h1]at hj;simp[h1];omega
    ·exact hrl i
   have hy':(List.replicate row.length SV.any)[d]? =some y:=by simpa[Qa.row,List.getD,hi']using hy
   obtain⟨g1,g2⟩:=List.getElem?_eq_some_iff.1 hy';have g1:d<row.length:=by simpa using g1
   have g2:y=.any:=by simpa using g2.symm
   subst g2;exact⟨_,List.getElem?_eq_getElem (by rw[hlen];exact g1),fun _ _ v _=>.any v⟩
  simp only[Qa.write];split
  ·rename_i y;split
   ·rename_i hjc;have ejc:j=c:=Nat.eq_of_beq_eq_true hjc;subst ejc;subst e0;refine⟨rfl,rfl,fun i hi=>same _ _ ?_⟩;simp only[Qa.row,if_true];by_cases hir:i=r
    ·subst hir;simp only[if_true];have h1:=hrl i;simp only[Qa.row,if_true]at h1 hj;refine List.ext_getElem? fun d=>?_;rw[List.getElem?_set];generalize hA:(Q3 row (xs.getD i (Els.Zx row))).map SV.pv=A at*;have hAl:A.length=row.length:=by simpa using h1
     have hj':j+1≤row.length:=by simpa[hAl]using hj
     rw[Wl _ _ _ _ (by simpa[hAl]using hj')];simp only[List.length_cons,List.length_nil,Nat.zero_add];by_cases hd:d<j
     ·rw[if_neg (by omega),if_pos hd,List.getElem?_set,if_neg (by omega)]
     ·by_cases hd2:d=j
      ·subst hd2;simp[hAl];omega
      ·rw[if_neg (by omega),if_neg hd,if_neg (by omega),List.getElem?_set,if_neg (by omega)]
    ·rw[if_neg hir,if_neg hir,if_neg hir]
   ·exact hmix
  ·exact hmix
 |mix ty sz' rows=>
  simp[Qa.Qx]at hz;subst hz;have hr':r<rows.length:=hr;refine⟨rfl,by simp[Qa.write,Qa.len],fun i hi=>same _ _ ?_⟩;simp only[Qa.write,Qa.row];by_cases hir:i=r
  ·subst hir;simp[hr',List.getD,List.getElem?_set]
  ·simp[hir,List.getD,List.getElem?_set];rw[if_neg (fun h=>hir h.symm)]
 |map es c=>simp[Qa.Qx]at hz
 |nest _ _ _ _ _=>simp[Qa.Qx]at hz
 |tmap k v l=>simp[Qa.Qx]at hz
 |iter a b=>simp[Qa.Qx]at hz
 |loop a=>simp[Qa.Qx]at hz
 |over a b=>simp[Qa.Qx]at hz
 |mit a b c=>simp[Qa.Qx]at hz
 |dfr a=>simp[Qa.Qx]at hz
 |dead=>simp[Qa.Qx]at hz
theorem Vz.Qa8{M:Qc}{ρ:Env}{w:World}{s:Nat}{o:Qa}{sz:Nat}{p:Place}{ty:TypeId}{cs:Array Value}(hz:o.Qx =some sz)(hp:ρ s=some p)
  (hty:∀ty' sz' rows,(o=.vec ty' sz' rows→ty'=ty)) (hty2:∀ty' sz' rows,(o=.mix ty' sz' rows→ty'=ty)) (hty3:∀ty' row l,(o=.tvec ty' row l→ty'=ty)) (hty4:∀ty' row l r c x,(o=.tlnk ty' row l r c x→ty'=ty))
  (h1:w.heap[p.block]? =some (.cells cs ty (0,0))) (h2:p.cap≤cs.size) (h3:o.len*sz≤p.cap)
  (h4:∀i j,i<o.len→j<sz→∃v,cs[i*sz+j]? =some v∧Xd v=true)
  (h5:∀i j x,i<o.len→(o.row i)[j]? =some x→j<sz∧∀v,cs[i*sz+j]? =some v→Qe M ρ v x):Qy M ρ w s o:=by
 cases o with
 |vec ty' sz' rows=>
  simp[Qa.Qx]at hz;subst hz;cases hty _ _ _ rfl;have key:∀i j x,Zj rows i j=some x→i<rows.length∧((Qa.vec ty sz' rows).row i)[j]? =some x:=fun i j x hx=>by
   unfold Zj at hx;cases e:rows[i]? with
   |none=>simp[e]at hx
   |some r=>have hi:i<rows.length:=(List.getElem?_eq_some_iff.1 e).1;refine⟨hi,?_⟩;simp[Qa.row,List.getD,e]at hx⊢;exact hx
  exact .inr ⟨p,hp,⟨cs,h1,h2,h3,h4,fun i j x v hx hv=>let⟨hi,hx⟩:=key i j x hx;let⟨a,b⟩:=h5 i j x hi hx;⟨hi,a,b v hv⟩,fun i j x hx=>let⟨hi,hx⟩:=key i j x hx;⟨hi,(h5 i j x hi hx).1⟩⟩⟩
 |tvec ty' row l=>
  simp[Qa.Qx]at hz;subst hz;cases hty3 _ _ _ rfl;have hlen:(Qu row l).length=l.length:=by simp[Qu]
  have key:∀i j x,Zj (Qu row l) i j=some x→i<l.length∧((Qa.tvec ty row l).row i)[j]? =some x:=fun i j x hx=>by
   have hi:i<l.length:=by
    rcases Nat.lt_or_ge i l.length with h|h
    ·exact h
    ·rw[Zj,List.getElem?_eq_none (by rw[hlen];exact h)]at hx;cases hx
   refine⟨hi,?_⟩;have hi2:i<(Qu row l).length:=by rw[hlen];exact hi
   simp only[Zj,List.getElem?_eq_getElem hi2,Option.bind_some]at hx;have e:=U0 (row:=row) hi;simp only[Qa.row,List.getElem?_map,←e];simp only[List.getD,List.getElem?_eq_getElem hi2,Option.getD_some];exact hx
  exact .inr ⟨p,hp,⟨cs,h1,h2,by rw[hlen];exact h3,fun i j hi hj=>h4 i j (by rw[hlen]at hi;exact hi) hj,fun i j x v hx hv=>let⟨hi,hx⟩:=key i j x hx;let⟨a,b⟩:=h5 i j x hi hx;⟨by rw[hlen];exact hi,a,b v hv⟩,fun i j x hx=>let⟨hi,hx⟩:=key i j x hx;⟨by rw[hlen];exact hi,(h5 i j x hi hx).1⟩⟩⟩
 |tlnk ty' row l r c y=>
  simp[Qa.Qx]at hz;subst hz;cases hty4 _ _ _ _ _ _ rfl;have hlen:(Qu row l).length=l.length:=by simp[Qu]
  have key:∀i j x,Y1 row l r c y i j=some x→i<l.length∧((Qa.tlnk ty row l r c y).row i)[j]? =some x:=fun i j x hx=>by
   have hi:i<l.length:=by
    rcases Nat.lt_or_ge i l.length with h|h
    ·exact h
    ·rw[Y1,Zj,List.getElem?_eq_none (by rw[hlen];exact h)]at hx;cases hx
   exact⟨hi,(Qml hi).1 hx⟩
  exact .inr ⟨p,hp,⟨cs,h1,h2,by rw[hlen];exact h3,fun i j hi hj=>h4 i j (by rw[hlen]at hi;exact hi) hj,fun i j x v hx hv=>let⟨hi,hx⟩:=key i j x hx;let⟨a,b⟩:=h5 i j x hi hx;⟨by rw[hlen];exact hi,a,b v hv⟩,fun i j x hx=>let⟨hi,hx⟩:=key i j x hx;⟨by rw[hlen];exact hi,(h5 i j x hi hx).1⟩⟩⟩
 |mix ty' sz' rows=>
  simp[Qa.Qx]at hz;subst hz;cases hty2 _ _ _ rfl;have key:∀i j x,Yg rows i j=some x→i<rows.length∧((Qa.mix ty sz' rows).row i)[j]? =some x:=fun i j x hx=>by
   unfold Yg at hx;cases e:rows[i]? with
   |none=>simp[e]at hx
   |some r=>have hi:i<rows.length:=(List.getElem?_eq_some_iff.1 e).1;refine⟨hi,?_⟩;simp[Qa.row,List.getD,e]at hx⊢;exact hx
  exact .inr ⟨p,hp,⟨cs,h1,h2,h3,h4,fun i j x v hx hv=>let⟨hi,hx⟩:=key i j x hx;let⟨a,b⟩:=h5 i j x hi hx;⟨hi,a,b v hv⟩,fun i j x hx=>let⟨hi,hx⟩:=key i j x hx;⟨hi,(h5 i j x hi hx).1⟩⟩⟩
 |map es c=>simp[Qa.Qx]at hz
 |nest _ _ _ _ _=>simp[Qa.Qx]at hz
 |tmap k v l=>simp[Qa.Qx]at hz
 |iter a b=>simp[Qa.Qx]at hz
 |loop a=>simp[Qa.Qx]at hz
 |over a b=>simp[Qa.Qx]at hz
 |mit a b c=>simp[Qa.Qx]at hz
 |dfr a=>simp[Qa.Qx]at hz
 |dead=>simp[Qa.Qx]at hz
def Qa.ty:Qa→TypeId
 |.vec ty _ _=>ty
 |.tvec ty _ _=>ty
 |.mix ty _ _=>ty
 |.tlnk ty _ _ _ _ _=>ty
 |_=>0
theorem Qy.heap{M:Qc}{ρ:Env}{w:World}{s:Nat}{o:Qa}{sz:Nat}{p:Place}(h:Qy M ρ w s o)(hz:o.Qx =some sz)(hp:ρ s=some p):∃cs,w.heap[p.block]? =some (.cells cs o.ty (0,0)):=by
 cases o with
 |vec ty sz' rows=>
  rcases h with⟨h1,_⟩|⟨q,h1,h2⟩
  ·rw[hp]at h1;cases h1
  ·rw[hp]at h1;cases h1;obtain⟨cs,a1,_⟩:=h2.ex;exact⟨cs,a1⟩
 |tvec ty row l=>
  rcases h with⟨h1,_⟩|⟨q,h1,h2⟩
  ·rw[hp]at h1;cases h1
  ·rw[hp]at h1;cases h1;obtain⟨cs,a1,_⟩:=h2.ex;exact⟨cs,a1⟩
 |tlnk ty row l r c x=>
  rcases h with⟨h1,_⟩|⟨q,h1,h2⟩
  ·rw[hp]at h1;cases h1
  ·rw[hp]at h1;cases h1;obtain⟨cs,a1,_⟩:=h2.ex;exact⟨cs,a1⟩
 |mix ty sz' rows=>
  rcases h with⟨h1,_⟩|⟨q,h1,h2⟩
  ·rw[hp]at h1;cases h1
  ·rw[hp]at h1;cases h1;obtain⟨cs,a1,_⟩:=h2.ex;exact⟨cs,a1⟩
 |map es c=>simp[Qa.Qx]at hz
 |nest _ _ _ _ _=>simp[Qa.Qx]at hz
 |tmap k v l=>simp[Qa.Qx]at hz
 |iter a b=>simp[Qa.Qx]at hz
 |loop a=>simp[Qa.Qx]at hz
 |over a b=>simp[Qa.Qx]at hz
 |mit a b c=>simp[Qa.Qx]at hz
 |dfr a=>simp[Qa.Qx]at hz
 |dead=>simp[Qa.Qx]at hz
theorem Qd0(o:Qa)(r j:Nat)(l:List SV):(o.write r j l).ty=o.ty:=by cases o<;>simp only[Qa.write]<;>(try split)<;>(try split)<;>rfl
theorem K5{w:World}{g:Nat}{cs:Array Value}{b:Nat}(h:b≠g):(w.setRow g cs).heap[b]? =w.heap[b]? :=setRow_other w g b cs h
theorem setRow_size(w:World)(g:Nat)(cs:Array Value):(w.setRow g cs).heap.size=w.heap.size:=by simp[World.setRow]
theorem Qtf{P:Program}{w:World}{b o:Nat}{t:TypeId}{i:TI}(ht:Yf P t i){v:Value}{ty:TypeId}{cs:Array Value}(hh:w.heap[b]? =some (.cells cs ty (0,0)))
  (hs:v.cells.size=i.size) (ho:o+v.cells.size≤cs.size) (h1:∀u∈v.cells.toList,u.oneCell'=true):
  (storeVar t ⟨b,o,none⟩ v).run P w=.ok () (w.setRow b (cs.toList.take o++v.cells.toList++cs.toList.drop (o+v.cells.toList.length)).toArray):=by
 obtain⟨n,hn,hsz,_⟩:=ht.inf;have:=run_storeCells_at P b o ty v.cells.toList 0 cs w hh (by simpa using ho) h1;simp only[Nat.add_zero]at this;simp[storeVar,sizeOf,typeInfo,hn,hsz,hs,this]
theorem Zo2{P:Program}{M:Qc}{ρ:Env}{H:List Qa}{w:World}{K:Qr}{t:TypeId}{i:TI}(ht:Yf P t i)(hm:Mem M ρ H w){s sz r j:Nat}{o:Qa}(ho:H[s]? =some o){v u:Value}{x:SV}{l:List SV}(ha:Qe M ρ v (.ptr s sz r j))(hx:Qe M ρ u x)(hl:x.parts i.size=some l)
  (h:(Qpj H s o sz r j l).holds H K):Ve P (Instr.storeAt t v u) M ρ H w K:=by
 obtain⟨q1,q2,q3⟩:=hx.parts hl;unfold Qpj at h;split at h
 ·rename_i ty ity row ll q y;obtain⟨hkn,hc,hc2,hK⟩:=h;have e1:=Nat.eq_of_beq_eq_true hc;have e2:=of_decide_eq_true hc2;obtain⟨n0,y0⟩:=q;cases ha with
  |ptr _ _ _ _ k p hp hk=>
   obtain⟨p',hp',hn⟩:∃p',ρ s=some p'∧Kl M ρ w p' ty ity row ll (some (n0,y0)):=by
    rcases hm.own s _ ho with⟨_,_,h3⟩|h3
    ·cases h3
    ·exact h3
   rw[hp]at hp';cases hp';obtain⟨cs,bl,a1,a2,a3,a4,a5,a6,a7,a8⟩:=hn.ex;have hk':k=n0:=by have:=norm_eq sz r j 1;rw[e1,e2]at this;simp only[Nat.mul_one,Nat.add_zero]at this;omega
   subst hk';obtain⟨b1,b2⟩:=a6 k y0 rfl;have hs1:u.cells.size=1:=by rw[q1,←q2];rfl
   obtain⟨c0,hc0⟩:∃c0,u.cells.toList=[c0]:=by
    match hh:u.cells.toList with
    |[c0]=>exact⟨c0,rfl⟩
    |[]=>have:=congrArg List.length hh;rw[Array.length_toList,hs1]at this;cases this
    |a::b::c=>have:=congrArg List.length hh;rw[Array.length_toList,hs1]at this;simp at this
   have hcell:Qe M ρ c0 y:=q3 0 c0 y (by rw[←Array.getElem?_toList,hc0];rfl) rfl;have hone:∀z∈u.cells.toList,z.oneCell'=true:=fun z hz=>by rw[hc0]at hz;simp only[List.mem_singleton]at hz;subst hz;exact hcell.known hkn
   have hrun:=Qtf (P:=P) ht a1 q1 (o:=k) (by omega) hone;generalize hcs':(cs.toList.take k++u.cells.toList++cs.toList.drop (k+u.cells.toList.length)).toArray=cs' at hrun;have hget:∀m:Nat,cs'[m]? =if m=k then some c0 else cs[m]? :=fun m=>by
    rw[←hcs',List.getElem?_toArray,Wl _ _ _ _ (by rw[hc0];simp;omega),hc0];simp only[List.length_singleton,Array.getElem?_toList];by_cases g:m<k
    ·rw[if_pos g,if_neg (by omega)]
    ·by_cases g2:m=k
     ·subst g2;rw[if_neg (by omega),if_pos (by omega),if_pos rfl];simp
     ·rw[if_neg g,if_neg (by omega),if_neg g2]
   have hsize:cs'.size=cs.size:=by rw[←hcs'];simp[hc0];omega
   have hheap:(w.setRow p.block cs').heap[p.block]? =some (.cells cs' ty (0,0)):=setRow_heap w p.block cs cs' ty (0,0) a1;have hnew:Qy M ρ (w.setRow p.block cs') s (.nest ty ity row ll (some (k,y))):=by
    refine .inr ⟨p,hp,cs',bl,hheap,by rw[hsize];exact a2,a3,fun m hm'=>?_,fun m l hml hne=>?_,fun m z hz=>?_,a7,a8⟩
    ·rw[hget];split
     ·exact⟨c0,rfl,hone c0 (by rw[hc0];exact List.mem_singleton_self _)⟩
     ·exact a4 m hm'
    ·have hmk:¬m=k:=fun e=>hne _ rfl e.symm;obtain⟨z,hz,hh⟩:=a5 m l hml (fun x hx'=>by cases hx';exact fun e=>hmk e.symm);refine⟨z,by rw[hget,if_neg hmk];exact hz,?_⟩;rcases hh with hh|⟨b,n,c,cap,k1,k2,k3,k4,k5,k6,k7,k8⟩
     ·exact .inl hh
     ·refine .inr ⟨b,n,c,cap,k1,k2,k3,k4,k5,k6,k7,?_⟩;refine k8.mono M.le_refl ρ.le_refl ?_;exact K5 (fun e=>a8 (by rw[←e];exact k2))
    ·cases hz;refine⟨b1,fun z hz=>?_⟩;rw[hget,if_pos rfl]at hz;cases hz;exact hcell
   obtain⟨g1,g2⟩:=hm.put (so:=.nest ty ity row ll (some (k,y))) ho rfl hp (fun b hb=>K5 hb) (setRow_size ..) rfl hnew;refine⟨_,?_,.any,_,[s],[],M,ρ,hK,rfl,g1,g2⟩;simp only[Instr.storeAt,Instr.sureAddr,Sem.run_bind,Sem.run_pure,Result.andThen_ok];exact hrun
 ·exact h.elim
theorem Qu8{P:Program}{tab:Qo}(htab:Qf P tab){M:Qc}{ρ:Env}{H:List Qa}{w:World}{K:Qr}(hm:Mem M ρ H w){t:TypeId}{a x:SV}{v u:Value}(ha:Qe M ρ v a)(hx:Qe M ρ u x)
  (h:(Qep tab H t a x).holds H K):Ve P (Instr.storeAt t v u) M ρ H w K:=by
 unfold Qep at h;split at h
 ·exact h.elim
 ·rename_i i hi;have ht:=htab.get hi;split at h
  ·exact h.elim
  ·rename_i l hl;obtain⟨q1,q2,q3⟩:=hx.parts hl;split at h
   ·rename_i s sz r j;split at h
    ·exact h.elim
    ·rename_i o ho;split at h
     ·exact Zo2 ht hm ho ha hx hl h
     ·rename_i szo hz;simp only[Qn.holds,decide_eq_true_eq]at h;obtain⟨hkn,hr,hfit,hj,hK⟩:=h;rw[Qnz hfit]at hj;cases ha with
      |ptr _ _ _ _ k p hp hk=>
       have hown:=hm.own s o ho;obtain⟨cs0,ty0,a1,a2,a3,a4,a5⟩:=(hown.rowOf hz hp).ex;obtain⟨cs,a1'⟩:=hown.heap hz hp;rw[a1]at a1';cases a1';generalize hrr:(norm sz r j szo).1=R at*;generalize hcc:(norm sz r j szo).2=C at*;have hk':k=R*szo+C:=by rw[←hrr,←hcc,norm_eq];exact hk
       obtain⟨w1,w2,w4⟩:=Zdd o hz hr hfit hj;have hCl:C+l.length≤szo:=by
        rcases Nat.eq_zero_or_pos (o.row R).length with e|e
        ·omega
        ·have hlast:(o.row R).length-1<(o.row R).length:=by omega
         obtain⟨b1,_⟩:=a5 R ((o.row R).length-1) (o.row R)[(o.row R).length-1] hr (by simp[hlast]);omega
       have hend:R*szo+C+u.cells.size≤cs0.size:=by have h1:(R+1)*szo≤o.len*szo:=Nat.mul_le_mul_right szo hr;rw[Nat.succ_mul]at h1;omega
       have hone:∀y∈u.cells.toList,y.oneCell'=true:=fun y hy=>by
        obtain⟨m,hm',hy'⟩:=List.getElem_of_mem hy;have hlm:m<l.length:=by simp at hm';omega
        exact(q3 m y l[m] (by rw[←Array.getElem?_toList,List.getElem?_eq_getElem hm',hy']) (by simp[hlm])).known (List.all_eq_true.1 hkn _ (List.getElem_mem hlm))
       have hrun:=Qtf (P:=P) ht a1 q1 hend hone;have hlen:u.cells.toList.length=l.length:=by simp[q1,q2]
       generalize hcs':(cs0.toList.take (R*szo+C)++u.cells.toList++cs0.toList.drop (R*szo+C+u.cells.toList.length)).toArray=cs' at hrun;have hget:∀m:Nat,cs'[m]? =if m<R*szo+C then cs0[m]? else if m<R*szo+C+l.length then u.cells[m-(R*szo+C)]? else cs0[m]? :=fun m=>by rw[←hcs',List.getElem?_toArray,Wl _ _ _ _ (by rw[hlen];simp;omega),hlen];simp only[Array.getElem?_toList]
       have hsize:cs'.size=cs0.size:=by rw[←hcs'];simp;omega
       have hheap:(w.setRow p.block cs').heap[p.block]? =some (.cells cs' o.ty (0,0)):=setRow_heap w p.block cs0 cs' o.ty (0,0) a1;have hnew:Qy M ρ (w.setRow p.block cs') s (o.write R C l):=by
        refine Vz.Qa8 w1 hp (fun ty' sz' rows e=>?_) (fun ty' sz' rows e=>?_) (fun ty' row l2 e=>?_) (fun ty' row l2 r c x e=>?_) hheap (by rw[hsize];exact a2) (by rw[w2];exact a3) (fun m c hmr hc=>?_) (fun m c y hmr hy=>?_)
        ·have:=Qd0 o R C l;rw[e]at this;exact this
        ·have:=Qd0 o R C l;rw[e]at this;exact this
        ·have:=Qd0 o R C l;rw[e]at this;exact this
        ·have:=Qd0 o R C l;rw[e]at this;exact this
        ·rw[w2]at hmr;obtain⟨z,hz1,hz2⟩:=a4 m c hmr hc;rw[hget];split
         ·exact⟨z,hz1,hz2⟩
         ·split
          ·rename_i g1 g2;have hlt:m*szo+c-(R*szo+C)<u.cells.size:=by omega
           refine⟨u.cells[m*szo+c-(R*szo+C)],by simp[hlt],hone _ (by simp)⟩
          ·exact⟨z,hz1,hz2⟩
        ·rw[w2]at hmr;obtain⟨y',hy',himp⟩:=w4 m hmr c y hy;have main:c<szo∧∀z,cs'[m*szo+c]? =some z→Qe M ρ z y':=by
          split at hy'
          ·rename_i e;subst e;rw[Wl _ _ _ _ hj]at hy';split at hy'
           ·rename_i g1;obtain⟨b1,b2⟩:=a5 m c y' hr hy';refine⟨b1,fun z hz'=>b2 z ?_⟩;rw[hget]at hz';rw[if_pos (by omega)]at hz';exact hz'
           ·split at hy'
            ·rename_i g1 g2;refine⟨by omega,fun z hz'=>?_⟩;rw[hget,if_neg (by omega),if_pos (by omega)]at hz';exact q3 (c-C) z y' (by rw[show m*szo+c-(m*szo+C)=c-C by omega]at hz';exact hz') hy'
            ·rename_i g1 g2;obtain⟨b1,b2⟩:=a5 m c y' hr hy';refine⟨b1,fun z hz'=>b2 z ?_⟩;rw[hget,if_neg (by omega),if_neg (by omega)]at hz';exact hz'
          ·rename_i e;obtain⟨b1,b2⟩:=a5 m c y' hmr hy';refine⟨b1,fun z hz'=>b2 z ?_⟩;rw[hget]at hz';rcases Nat.lt_or_gt_of_ne e with g|g
           ·have:=Xv b1 g;rw[if_pos (by omega)]at hz';exact hz'
           ·have h3:R*szo+C+l.length≤m*szo:=by have:=Nat.mul_le_mul_right szo (show R+1≤m from g);rw[Nat.succ_mul]at this;omega
            rw[if_neg (by omega),if_neg (by omega)]at hz';exact hz'
         exact⟨main.1,fun z hz'=>himp _ _ _ (main.2 z hz')⟩
       obtain⟨g1,g2⟩:=hm.put (so:=o.write R C l) ho (U9 hz) hp (fun b hb=>K5 hb) (setRow_size ..) (U9 w1) hnew;refine⟨_,?_,.any,_,[s],[],M,ρ,hK,rfl,g1,g2⟩;rw[hk'];simp only[Instr.storeAt,Instr.sureAddr,Sem.run_bind,Sem.run_pure,Result.andThen_ok];exact hrun
   ·exact h.elim
def Qb4:List (List SV)→Option (List (List PV))
 |[]=>some []
 |r::rs=>match Js r,Qb4 rs with
  |some p,some ps=>some (p::ps)
  |_,_=>none
theorem Qtg:∀{l:List (List SV)} {ps:List (List PV)},Qb4 l=some ps→l=ps.map (·.map .pv)
 |[],ps,h=>by simp[Qb4]at h;subst h;rfl
 |x::l,ps,h=>by
  simp only[Qb4]at h;split at h
  ·rename_i p q h1 h2;cases h;simp[Kd h1,Qtg h2]
  ·cases h
def mkObj(ty sz:Nat)(rows:List (List SV)):Qa:=
 match Qb4 rows with
 |some ps=>.vec ty sz ps
 |none=>.mix ty sz rows
theorem Qol(ty sz:Nat)(rows:List (List SV)):(mkObj ty sz rows).Qx =some sz∧(mkObj ty sz rows).len=rows.length∧(mkObj ty sz rows).ty=ty∧∀i,(mkObj ty sz rows).row i=rows.getD i []:=by
 unfold mkObj;split
 ·rename_i ps h;have e:=Qtg h;subst e;refine⟨rfl,by simp[Qa.len],rfl,fun i=>?_⟩;simp only[Qa.row,List.getD,List.getElem?_map];cases ps[i]? <;>simp
 ·exact⟨rfl,rfl,rfl,fun i=>rfl⟩
theorem Qbu{P:Program}{S:Sem Value}{M:Qc}{ρ:Env}{H:List Qa}{w w':World}{K:Qr}{v:Value}{x:SV}{cs:Array Value}{ty:TypeId}{o:Qa}{sz:Nat}
  (hm:Mem M ρ H w) (hr:S.run P w=.ok v w') (hw:w'.heap=w.heap.push (.cells cs ty (0,0))) (hz:o.Qx =some sz) (hty:o.ty=ty) (hl:o.len*sz≤cs.size)
  (h4:∀i j,i<o.len→j<sz→∃v,cs[i*sz+j]? =some v∧Xd v=true)
  (h5:∀i j x,i<o.len→(o.row i)[j]? =some x→j<sz∧∀v,cs[i*sz+j]? =some v→Qe M ρ v x)
  (hx:∀ρ':Env,ρ' H.length=some ⟨w.heap.size,cs.size,[]⟩→Qe M ρ' v x) (hk:K x (H++[o]) [] []) (io:w'.os=w.os∧w'.output=w.output:=by exact⟨rfl,rfl⟩):Qv P S M ρ H w K:=by
 have hle:ρ.le (ρ.set H.length (some ⟨w.heap.size,cs.size,[]⟩)):=fun s p hp=>by
  by_cases e:s=H.length
  ·subst e;rw[hm.fresh _ (Nat.le_refl _)]at hp;cases hp
  ·rw[Env.Zu _ _ e];exact hp
 have hheap:w'.heap[w.heap.size]? =some (.cells cs ty (0,0)):=by rw[hw];simp
 have ho:Qy M (ρ.set H.length (some ⟨w.heap.size,cs.size,[]⟩)) w' H.length o:=by
  refine Vz.Qa8 (p:=⟨w.heap.size,cs.size,[]⟩) hz (Env.set_self ..) (fun ty' sz' rows e=>?_) (fun ty' sz' rows e=>?_) (fun ty' row l2 e=>?_) (fun ty' row l2 r c x e=>?_) hheap (Nat.le_refl _) hl h4 (fun i j x hi hj=>?_)
  ·rw[e]at hty;exact hty
  ·rw[e]at hty;exact hty
  ·rw[e]at hty;exact hty
  ·rw[e]at hty;exact hty
  ·obtain⟨a,b⟩:=h5 i j x hi hj;exact⟨a,fun v hv=>(b v hv).mono M.le_refl hle⟩
 obtain⟨g1,g2⟩:=hm.alloc hw ho io;exact⟨v,w',hr,x,_,[],[],M,_,hk,hx _ (Env.set_self ..),g1,g2⟩
theorem Qy.Qde{M:Qc}{ρ:Env}{w:World}{s ty:Nat}{row:List Ty}{rows:List (List PV)}{l:List (Els row)}(hl:l.length=rows.length)
  (hc:∀(i:Nat) (r':List PV),(Qu row l)[i]? =some r'→∃r,rows[i]? =some r∧∀(j:Nat) (q:PV),r'[j]? =some q→∃p,r[j]? =some p∧∀(M:Qc) (v:Value),Q6 M v p→Q6 M v q)
  (h:Qy M ρ w s (.vec ty row.length rows)):Qy M ρ w s (.tvec ty row l):=by
 have hlen:(Qu row l).length=rows.length:=by simp[Qu,hl]
 rcases h with⟨h1,h2⟩|⟨p,h1,h2⟩
 ·exact .inl ⟨h1,List.eq_nil_of_length_eq_zero (by rw[hlen,h2];rfl)⟩
 ·refine .inr ⟨p,h1,?_⟩;obtain⟨cs,a1,a2,a3,a4,a5,a6⟩:=h2.ex;have key:∀i j x,Zj (Qu row l) i j=some x→∃y,Zj rows i j=some y∧∀M ρ v,Qe M ρ v y→Qe M ρ v x:=fun i j x hx=>by
   unfold Zj at hx;simp only[Option.map_eq_some_iff,Option.bind_eq_some_iff]at hx;obtain⟨q,⟨r',hr',hq⟩,rfl⟩:=hx;obtain⟨r,g1,g2⟩:=hc i r' hr';obtain⟨p,g3,g4⟩:=g2 j q hq;refine⟨.pv p,by simp[Zj,g1,g3],fun M ρ v h=>?_⟩;cases h with
   |pv h=>exact .pv (g4 M v h)
  refine⟨cs,a1,a2,by rw[hlen];exact a3,by rw[hlen];exact a4,fun i j x v hx hv=>?_,fun i j x hx=>?_⟩
  ·obtain⟨y,hy,himp⟩:=key i j x hx;obtain⟨b1,b2,b3⟩:=a5 i j y v hy hv;exact⟨by rw[hlen];exact b1,b2,himp _ _ _ b3⟩
  ·obtain⟨y,hy,_⟩:=key i j x hx;rw[hlen];exact a6 i j y hy
theorem Mem.described{M:Qc}{ρ:Env}{H:List Qa}{w:World}{s:Nat}{o o':Qa}(h:Mem M ρ H w)(hs:H[s]? =some o)(hl:o'.live=o.live)(ho:Qy M ρ w s o→Qy M ρ w s o'):Mem M ρ (H.set s o') w:=by
 have sub:∀(t:Nat) (x:Qa),(H.set s o')[t]? =some x→∃y,H[t]? =some y∧x.live=y.live∧(Qy M ρ w t y→Qy M ρ w t x):=fun t x hx=>by
  rw[List.getElem?_set]at hx;split at hx
  ·rename_i e;subst e;split at hx
   ·cases hx;exact⟨o,hs,hl,ho⟩
   ·cases hx
  ·exact⟨x,hx,rfl,id⟩
 refine⟨h.imm,fun t x hx=>?_,fun t x p b hx hlx hp hb=>?_,fun t t' x x' p p' b hx hx' hlx hlx' hp hp' hb hb'=>?_,fun t ht=>h.fresh t (by simpa using ht),fun t x p b hx hlx hp hb=>?_⟩
 ·obtain⟨y,hy,_,hi⟩:=sub t x hx;exact hi (h.own t y hy)
 ·obtain⟨y,hy,e,_⟩:=sub t x hx;rw[e]at hlx;exact h.seps t y p b hy hlx hp hb
 ·obtain⟨y,hy,e,_⟩:=sub t x hx;obtain⟨y',hy',e',_⟩:=sub t' x' hx';rw[e]at hlx;rw[e']at hlx';exact h.diss t t' y y' p p' b hy hy' hlx hlx' hp hp' hb hb'
 ·obtain⟨y,hy,e,_⟩:=sub t x hx;rw[e]at hlx;exact h.lts t y p b hy hlx hp hb
theorem Fr.described{M M':Qc}{ρ ρ':Env}{H H':List Qa}{w w':World}{n s:Nat}{t f:List Nat}{o o':Qa}(h:Fr M ρ H w M' ρ' H' w' n t f)(hs:H'[s]? =some o)(hl:o'.live=o.live):Fr M ρ H w M' ρ' (H'.set s o') w' n t f:=by
 refine⟨h.imm,h.new,fun b hb=>?_,h.same,h.grow,fun x y hx hxt hy hly=>?_,h.stay,h.io⟩
 ·obtain⟨x,y,p,h1,h2,h3,h4⟩:=hb;rw[List.getElem?_set]at h1;split at h1
  ·rename_i e;subst e;split at h1
   ·cases h1;exact h.own b ⟨s,o,p,hs,by rw[←hl];exact h2,h3,h4⟩
   ·cases h1
  ·exact h.own b ⟨x,y,p,h1,h2,h3,h4⟩
 ·obtain⟨⟨z,h1,h2⟩,h3⟩:=h.keep x y hx hxt hy hly;refine⟨?_,h3⟩;by_cases e:s=x
  ·subst e;rw[hs]at h1;cases h1;exact⟨o',by rw[List.getElem?_set];simp[(List.getElem?_eq_some_iff.1 hs).1],by rw[hl];exact h2⟩
  ·exact⟨z,by rw[List.getElem?_set,if_neg e];exact h1,h2⟩
def Qft(H':List Qa)(x:SV)(K:SV→List Qa→Prop):Prop:=
 ∃y,(∀M ρ v,Qe M ρ v x→Qe M ρ v y)∧(K y H'∨∃s o o',H'[s]? =some o∧o'.live=o.live∧(∀M ρ w,Qy M ρ w s o→Qy M ρ w s o')∧K y (H'.set s o'))
theorem Qv.described{P:Program}{S:Sem Value}{M:Qc}{ρ:Env}{H:List Qa}{w:World}{K:Qr}(h:Qv P S M ρ H w fun x H' t f=>Qft H' x fun y H'=>K y H' t f):Qv P S M ρ H w K:=by
 obtain⟨v,w',hr,x,H',t,f,M',ρ',⟨y,hy,hk⟩,hs,hm,hf⟩:=h;rcases hk with hk|⟨s,o,o',h1,h2,h3,hk⟩
 ·exact⟨v,w',hr,y,H',t,f,M',ρ',hk,hy _ _ _ hs,hm,hf⟩
 ·exact⟨v,w',hr,y,_,t,f,M',ρ',hk,hy _ _ _ hs,hm.described h1 h2 (h3 _ _ _),hf.described h1 h2⟩
theorem Qe7{H:List Qa}{x:SV}{ty:Nat}{row:List Ty}{rows:List (List PV)}{l:List (Els row)}{K:SV→List Qa→Prop}(hl:l.length=rows.length)
  (hc:∀(i:Nat) (r':List PV),(Qu row l)[i]? =some r'→∃r,rows[i]? =some r∧∀(j:Nat) (q:PV),r'[j]? =some q→∃p,r[j]? =some p∧∀(M:Qc) (v:Value),Q6 M v p→Q6 M v q)
  (hk:K x (H++[.tvec ty row l])):Qft (H++[.vec ty row.length rows]) x K:=
 ⟨x,fun _ _ _ h=>h,.inr ⟨H.length,.vec ty row.length rows,.tvec ty row l,by simp,rfl,fun M ρ w h=>h.Qde hl hc,by simpa using hk⟩⟩
def Qh3(tab:Qo)(H:List Qa)(t:Nat):Qn:=
 match tab.lookup t with
 |none=>.fail
 |some i=>.eff (.ptr H.length i.size 0 0) (H++[mkObj t i.size [i.zero.cells.toList.map SV.lit]]) [] []
theorem Qsh{cs:Array Value}{l:List SV}{sz:Nat}{M:Qc}{ρ:Env}(h1:cs.size=sz)(h2:l.length=sz)
  (h3:∀(i:Nat) (u:Value) (y:SV),cs[i]? =some u→l[i]? =some y→Qe M ρ u y) (i j:Nat) (x:SV) (hi:i<1) (hx:(([l]:List (List SV)).getD i [])[j]? =some x):
  j<sz∧∀v,cs[i*sz+j]? =some v→Qe M ρ v x:=by
 obtain rfl:i=0:=by omega
 simp[List.getD]at hx;exact⟨by have:=(List.getElem?_eq_some_iff.1 hx).1;omega,fun v hv=>h3 j v x (by simpa using hv) hx⟩
theorem Ztr{P:Program}{tab:Qo}(htab:Qf P tab){M:Qc}{ρ:Env}{H:List Qa}{w:World}{K:Qr}(hm:Mem M ρ H w){t:TypeId}{old:Value}
  (h:(Qh3 tab H t).holds H K):Qv P (Instr.alloc t true old) M ρ H w K:=by
 unfold Qh3 at h;split at h
 ·exact h.elim
 ·rename_i i hi;have ht:=htab.get hi;obtain⟨n,hn,h1,h2,h3⟩:=ht.inf;obtain⟨m1,m2,m3,m4⟩:=Qol t i.size [i.zero.cells.toList.map SV.lit];have hrun:(Instr.alloc t true old).run P w=.ok (.pointer (some ⟨w.heap.size,0,none⟩)) (w.alloc (.cells i.zero.cells t)):=by simp[Instr.alloc,zeroValue,typeInfo,hn,h3,newVar,newRow]
  refine Qbu hm hrun rfl m1 m3 (by rw[m2];simp[ht.zsz]) (fun r c hr hc=>?_) (fun r c x hr hx=>?_) (fun ρ' hρ=>.ptr _ _ 0 0 0 _ hρ (by simp)) h
  ·rw[m2]at hr;simp at hr;subst hr;have hc':c<i.zero.cells.size:=by rw[ht.zsz];exact hc
   exact⟨i.zero.cells[c],by simp[hc'],(Array.all_eq_true_iff_forall_mem.1 ht.zon) _ (by simp)⟩
  ·rw[m2]at hr;rw[m4]at hx;exact Qsh ht.zsz (by simp[ht.zsz]) (fun k u y hu hy=>by simp only[List.getElem?_map,Option.map_eq_some_iff]at hy;obtain⟨z,hz,rfl⟩:=hy;rw[Array.getElem?_toList,hu]at hz;cases hz;exact .pv (.lit _)) r c x hr hx
def Qk1(tab:Qo)(H:List Qa)(t:Nat)(x:SV):Qn:=
 match tab.lookup t with
 |none=>.fail
 |some i=>match x.parts i.size with
  |none=>.fail
  |some l=>.need (l.all SV.known) (.eff (.ptr H.length i.size 0 0) (H++[mkObj t i.size [l]]) [] [])
theorem Qqs{M:Qc}{ρ:Env}{cs:Array Value}{l:List SV}(hk:l.all SV.known=true)(hl:cs.size=l.length)
  (h:∀(i:Nat) (u:Value) (y:SV),cs[i]? =some u→l[i]? =some y→Qe M ρ u y) (k:Nat) (v:Value) (hv:cs[k]? =some v):v.oneCell'=true:=by
 have hlt:k<l.length:=by have:=(Array.getElem?_eq_some_iff.1 hv).1;omega
 exact(h k v l[k] hv (by simp[hlt])).known (List.all_eq_true.1 hk _ (List.getElem_mem hlt))
theorem Zdr{P:Program}{tab:Qo}(htab:Qf P tab){M:Qc}{ρ:Env}{H:List Qa}{w:World}{K:Qr}(hm:Mem M ρ H w){t:TypeId}{v:Value}{x:SV}(hx:Qe M ρ v x)
  (h:(Qk1 tab H t x).holds H K):Qv P (Instr.box t v) M ρ H w K:=by
 unfold Qk1 at h;split at h
 ·exact h.elim
 ·rename_i i hi;have ht:=htab.get hi;split at h
  ·exact h.elim
  ·rename_i l hl;obtain⟨hkn,h⟩:=h;obtain⟨q1,q2,q3⟩:=hx.parts hl;obtain⟨m1,m2,m3,m4⟩:=Qol t i.size [l];have hrun:(Instr.box t v).run P w=.ok (.pointer (some ⟨w.heap.size,0,none⟩)) (w.alloc (.cells v.cells t)):=by simp[Instr.box,newVar,newRow]
   refine Qbu hm hrun rfl m1 m3 (by rw[m2];simp[q1]) (fun r c hr hc=>?_) (fun r c y hr hy=>?_) (fun ρ' hρ=>.ptr _ _ 0 0 0 _ hρ (by simp)) h
   ·rw[m2]at hr;simp at hr;subst hr;have hc':c<v.cells.size:=by rw[q1];exact hc
    exact⟨v.cells[c],by simp[hc'],Qqs hkn (q1.trans q2.symm) q3 c _ (by simp[hc'])⟩
   ·rw[m2]at hr;rw[m4]at hy;exact Qsh q1 q2 q3 r c y hr hy
def Qcj{α:Type}(l v:List α)(f:Nat):List α:=l.take f++v++l.drop (f+v.length)
def Wj(place:Nat→Option (Nat×Nat)):List SV→List (Nat×SV)→Option (List SV)
 |cells,[]=>some cells
 |cells,(i,x)::rest=>match place i with
  |none=>none
  |some (off,size)=>match x.parts size with
   |none=>none
   |some l=>if(l.all SV.known)=true∧off+size≤cells.length then Wj place (Qcj cells l off) rest else none
structure Qai (M:Qc) (ρ:Env) (cs:Array Value) (l:List SV):Prop where
 sz:cs.size=l.length
 rep:∀(i:Nat) (u:Value) (y:SV),cs[i]? =some u→l[i]? =some y→Qe M ρ u y
 one:∀(i:Nat) (u:Value),cs[i]? =some u→u.oneCell'=true
theorem Qam{M:Qc}{ρ:Env}{place:Nat→Option (Nat×Nat)}:∀{sp:List (Nat×SV)} {vp:List (Nat×Value)} {cs:Array Value} {sc sc':List SV},Qai M ρ cs sc→
  vp.length=sp.length→(∀(k:Nat) (a:Nat×Value) (b:Nat×SV),vp[k]? =some a→sp[k]? =some b→a.1=b.1∧Qe M ρ a.2 b.2)→
  Wj place sc sp=some sc'→∃cs',Instr.fill place cs vp=some cs'∧Qai M ρ cs' sc'
 |[],[],cs,sc,sc',hr,_,_,h=>by simp only[Wj,Option.some.injEq]at h;subst h;exact⟨cs,rfl,hr⟩
 |[],_::_,_,_,_,_,hl,_,_=>by simp at hl
 |_::_,[],_,_,_,_,hl,_,_=>by simp at hl
 |(i,x)::sp,(i',v)::vp,cs,sc,sc',hr,hl,hp,h=>by
  obtain⟨e,hx⟩:=hp 0 _ _ rfl rfl;simp only at e hx;subst e;simp only[Wj]at h;split at h
  ·cases h
  ·rename_i off size hpl;split at h
   ·cases h
   ·rename_i l hlp;split at h
    ·rename_i hc;obtain⟨hkn,hfit⟩:=hc;obtain⟨q1,q2,q3⟩:=hx.parts hlp;obtain⟨f1,f2⟩:=Great.foldl_set off v.cells.toList 0 cs;have hsz:=hr.sz;generalize hcs1:(v.cells.toList.zipIdx 0).foldl (fun cs (x:Value×Nat)=>cs.setIfInBounds (off+x.2) x.1) cs=cs1 at f1 f2;have hget:∀k:Nat,cs1[k]? =if k<off then cs[k]? else if k<off+l.length then v.cells[k-off]? else cs[k]? :=fun k=>by
      rw[f2 k];simp only[Nat.add_zero,Array.length_toList,Array.getElem?_toList];by_cases h1:k<off
      ·rw[if_neg (by omega),if_pos h1]
      ·by_cases h2:k<off+l.length
       ·rw[if_pos (by omega),if_neg h1,if_pos h2]
       ·rw[if_neg (by omega),if_neg h1,if_neg h2]
     have hnew:Qai M ρ cs1 (Qcj sc l off):=by
      refine⟨?_,fun k u y hu hy=>?_,fun k u hu=>?_⟩
      ·rw[f1,hsz];simp[Qcj];omega
      ·rw[hget]at hu;unfold Qcj at hy;rw[Wl _ _ _ _ (by omega)]at hy;split at hu
       ·rename_i h1;rw[if_pos h1]at hy;exact hr.rep k u y hu hy
       ·rename_i h1;rw[if_neg h1]at hy;split at hu
        ·rename_i h2;rw[if_pos h2]at hy;exact q3 _ u y hu hy
        ·rename_i h2;rw[if_neg h2]at hy;exact hr.rep k u y hu hy
      ·rw[hget]at hu;split at hu
       ·exact hr.one k u hu
       ·split at hu
        ·exact Qqs hkn (q1.trans q2.symm) q3 _ u hu
        ·exact hr.one k u hu
     obtain⟨cs',g1,g2⟩:=Qam (sp:=sp) (vp:=vp) hnew (by simpa using hl) (fun k a b ha hb=>hp (k+1) a b (by simpa using ha) (by simpa using hb)) h;refine⟨cs',?_,g2⟩;simp only[Instr.fill,hpl];have hcond:(v.cells.size≠size||off+v.cells.size>cs.size)=false:=by simp[q1];omega
     rw[hcond];simp only[Bool.false_eq_true,if_false];have:v.cells.zipIdx.foldl (fun cs (x:Value×Nat)=>match x with|(c,j)=>cs.setIfInBounds (off+j) c) cs=cs1:=by rw[←hcs1,←Array.foldl_toList];simp
     rw[this];exact g1
    ·cases h
def chunks(sz n:Nat)(l:List SV):List (List SV):=(List.range n).map fun i=>(l.drop (i*sz)).take sz
def Qgf(tab:Qo)(H:List Qa)(t:Nat)(len:Nat)(parts:List (Nat×SV)):Qn:=
 match tab.lookup t with
 |some {desc:=.slice e,..}=>match tab.lookup e with
  |none=>.fail
  |some i=>if len*i.size>2 ^ 24∨len>9223372036854775807 then .fail else
   match Wj (fun k=>some (k*i.size,i.size)) ((List.replicate len (i.zero.cells.toList.map SV.lit)).flatten) parts with
   |none=>.fail
   |some l=>.eff (.sl H.length i.size 0 len) (H++[mkObj e i.size (chunks i.size len l)]) [] []
 |_=>.fail
theorem Qfi{α:Type}{z:List α}{n k:Nat}(hk:k<n*z.length):((List.replicate n z).flatten)[k]? =z[k%z.length]? :=by
 induction n generalizing k with
 |zero=>simp at hk
 |succ n ih=>
  rw[List.replicate_succ,List.flatten_cons,List.getElem?_append];split
  ·rename_i h;rw[Nat.mod_eq_of_lt h]
  ·rename_i h;rw[ih (by rw[Nat.succ_mul]at hk;omega)];rw[←Nat.mod_eq_sub_mod (by omega)]
theorem Qee{z:Array Value}{n m:Nat}(hz:z.size=m)(hone:z.all (·.oneCell')=true){M:Qc}{ρ:Env}:
  Qai M ρ (madeCells z (n*m)) ((List.replicate n (z.toList.map SV.lit)).flatten):=by
 have hlen:((List.replicate n (z.toList.map SV.lit)).flatten).length=n*m:=by simp[hz]
 have hget:∀k u,(madeCells z (n*m))[k]? =some u→k<n*m∧0<m∧z[k%m]? =some u:=fun k u hu=>by
  have hk:k<n*m:=by have:=(Array.getElem?_eq_some_iff.1 hu).1;rw[size_madeCells]at this;exact this
  have hm:0<m:=by rcases Nat.eq_zero_or_pos m with e|e;subst e;simp at hk;exact e
  have hlt:k%m<z.size:=by rw[hz];exact Nat.mod_lt _ hm
  refine⟨hk,hm,?_⟩;simp[madeCells,hk]at hu;rw[hz]at hu;simp[hlt]at hu⊢;exact hu
 refine⟨by rw[size_madeCells,hlen],fun k u y hu hy=>?_,fun k u hu=>?_⟩
 ·obtain⟨h1,h2,h3⟩:=hget k u hu;have hl2:(z.toList.map SV.lit).length=m:=by simp[hz]
  rw[Qfi (by rw[hl2];exact h1),hl2,List.getElem?_map,Array.getElem?_toList,h3]at hy;cases hy;exact .pv (.lit _)
 ·obtain⟨h1,h2,h3⟩:=hget k u hu;exact(Array.all_eq_true_iff_forall_mem.1 hone) u (Array.mem_of_getElem? h3)
theorem Zlz{l:List SV}{sz n i:Nat}(hi:i<n):(chunks sz n l).getD i []=(l.drop (i*sz)).take sz:=by simp[chunks,List.getD,hi]
theorem Zh4{M:Qc}{ρ:Env}{cs:Array Value}{l:List SV}{sz n:Nat}(hr:Qai M ρ cs l)(i j:Nat)(x:SV)(hi:i<n)(hx:((chunks sz n l).getD i [])[j]? =some x):
  j<sz∧∀v,cs[i*sz+j]? =some v→Qe M ρ v x:=by
 rw[Zlz hi,List.getElem?_take]at hx;split at hx
 ·rename_i hj;rw[List.getElem?_drop]at hx;exact⟨hj,fun v hv=>hr.rep _ v x hv hx⟩
 ·cases hx
theorem Zbr{P:Program}{w:World}{t e len:Nat}{i:TI}{parts:Array (Nat×Value)}{cells:Array Value}(hu:P.underlying t=some (.slice e))(he:Yf P e i)(hs:¬len*i.size>2 ^ 24)
  (h:Instr.fill (fun k=>some (k*i.size,i.size)) (madeCells i.zero.cells (len*i.size)) parts.toList=some cells):
  (Instr.buildSlice t len parts).run P w=.ok (.slice (some ⟨w.heap.size,0,none⟩) len len) (w.alloc (.cells cells e)):=by
 obtain⟨n,hn,h1,h2,h3⟩:=he.inf;have hs':¬len*n.size>2 ^ 24:=by rw[h1];exact hs
 by_cases h0:len*n.size=0
 ·have h':Instr.fill (fun k=>some (k*n.size,n.size)) #[] parts.toList=some cells:=by rw[←h1,h0]at h;simpa[madeCells,Array.range_zero']using h
  simp[Instr.buildSlice,run_underlying hu,sizeOf,typeInfo,hn,hs',h0,newRow,Array.range_zero',h']
 ·have h':Instr.fill (fun k=>some (k*n.size,n.size)) ((Array.range (len*n.size)).map (i.zero.cells[·%i.zero.cells.size]!)) parts.toList=some cells:=by rw[h1];exact h
  simp[Instr.buildSlice,run_underlying hu,sizeOf,typeInfo,zeroValue,hn,h3,hs',h0,newRow,h']
theorem Zg9{P:Program}{tab:Qo}(htab:Qf P tab){M:Qc}{ρ:Env}{H:List Qa}{w:World}{K:Qr}(hm:Mem M ρ H w){t len:Nat}{vp:Array (Nat×Value)}{sp:List (Nat×SV)}
  (hl:vp.size=sp.length) (hp:∀(k:Nat) (a:Nat×Value) (b:Nat×SV),vp.toList[k]? =some a→sp[k]? =some b→a.1=b.1∧Qe M ρ a.2 b.2)
  (h:(Qgf tab H t len sp).holds H K):Qv P (Instr.buildSlice t len vp) M ρ H w K:=by
 unfold Qgf at h;split at h
 ·rename_i e sz by' zr rw' hte;have htt:=htab.get hte;split at h
  ·exact h.elim
  ·rename_i i hi;have ht:=htab.get hi;split at h
   ·exact h.elim
   ·rename_i hsm0;obtain⟨hsm,hl6⟩:=not_or.1 hsm0;split at h
    ·exact h.elim
    ·rename_i l hfill;have hz:=Qee (n:=len) (M:=M) (ρ:=ρ) ht.zsz ht.zon;obtain⟨cs',g1,g2⟩:=Qam hz (by simpa using hl) hp hfill;have hrun:=Zbr (w:=w) (t:=t) (parts:=vp) htt.und ht hsm g1;obtain⟨m1,m2,m3,m4⟩:=Qol e i.size (chunks i.size len l);have hcl:(chunks i.size len l).length=len:=by simp[chunks]
     have hsz:cs'.size=len*i.size:=by
      have:∀{sp:List (Nat×SV)} {sc sc':List SV},Wj (fun k=>some (k*i.size,i.size)) sc sp=some sc'→sc'.length=sc.length:=by
       intro sp;induction sp with
       |nil=>intro sc sc' h;simp[Wj]at h;subst h;rfl
       |cons a sp ih=>
        intro sc sc' h;obtain⟨k,x⟩:=a;simp only[Wj]at h;split at h
        ·cases h
        ·rename_i l' hl';split at h
         ·rename_i hc;rw[ih h];have hlen:l'.length=i.size:=by
           revert hl'
           match x with
           |.agg q=>intro h;simp only[SV.parts]at h;split at h;cases h;assumption;cases h
           |.pv (.lit (.agg q))=>intro h;simp only[SV.parts]at h;split at h;cases h;simpa;cases h
           |.pv (.lit (.tuple q))=>intro h;simp[SV.parts]at h
           |.any=>intro h;simp[SV.parts]at h
           |.tup q=>intro h;simp[SV.parts]at h
           |.pv (.lit (.bool _))|.pv (.lit (.int _ _))|.pv (.lit (.float _ _))|.pv (.lit (.complex _ _ _))|.pv (.lit (.string _))|.pv (.lit (.pointer _))|.pv (.lit (.slice _ _ _))
           |.pv (.lit (.map _))|.pv (.lit (.chan _))|.pv (.lit (.func _ _ _))|.pv (.lit .nilFunc)|.pv (.lit (.iface _ _))|.pv (.lit .nilIface)
           |.pv (.rsl _ _)|.pv (.rptr _ _ _ _)|.pv (.tsl _ _)|.pv (.tptr _ _ _ _)|.pv (.csl _ _)|.ptr _ _ _ _|.sl _ _ _ _|.mp _|.yld _|.slb _ _ _ _ _|.fn _ _ _=>intro h;simp only[SV.parts]at h;split at h;cases h;simp;omega;cases h
          simp only[Qcj,List.length_append,List.length_take,List.length_drop];omega
         ·cases h
      rw[g2.sz,this hfill];simp[ht.zsz]
     refine Qbu hm hrun rfl m1 m3 (by rw[m2,hcl,hsz];exact Nat.le_refl _) (fun r c hr hc=>?_) (fun r c y hr hy=>?_) (fun ρ' hρ=>?_) h
     ·rw[m2,hcl]at hr;have hlt:r*i.size+c<cs'.size:=by have:=Nat.mul_le_mul_right i.size (show r+1≤len from hr);rw[Nat.succ_mul]at this;omega
      exact⟨_,Array.getElem?_eq_getElem hlt,g2.one _ _ (Array.getElem?_eq_getElem hlt)⟩
     ·rw[m2,hcl]at hr;rw[m4]at hy;exact Zh4 g2 r c y hr hy
     ·exact .sl _ _ 0 len len 0 _ hρ (by simp) (by simp[hsz]) (Nat.le_refl _) (by omega)
 ·exact h.elim
def Qf6(tab:Qo)(H:List Qa)(t:Nat)(l c:SV):Qn:=
 match tab.lookup t with
 |some {desc:=.slice e,..}=>match tab.lookup e with
  |none=>.fail
  |some i=>match l,c with
   |.pv (.lit (.int .i64 n)),.pv (.lit (.int .i64 m))=>.need (decide (0≤n)) <| .need (decide (n≤m)) <| .need (decide ((i.bytes:Int)*m≤281474976710656)) <| .need (decide (m≤9223372036854775807)) <|
     match Js (i.zero.cells.toList.map SV.lit)with
     |none=>.fail
     |some z=>.eff (.sl H.length i.size 0 n.toNat) (H++[.vec e i.size (List.replicate n.toNat z)]) [] []
   |_,_=>.fail
 |_=>.fail
theorem Qyo{P:Program}{tab:Qo}(htab:Qf P tab){M:Qc}{ρ:Env}{H:List Qa}{w:World}{K:Qr}(hm:Mem M ρ H w){t:Nat}{l c:SV}{v u:Value}(hl:Qe M ρ v l)(hc:Qe M ρ u c)
  (h:(Qf6 tab H t l c).holds H K):Qv P (Instr.makeSlice t v u) M ρ H w K:=by
 unfold Qf6 at h;split at h
 ·rename_i e sz by' zr rw' hte;have htt:=htab.get hte;split at h
  ·exact h.elim
  ·rename_i i hi;have ht:=htab.get hi;split at h
   ·rename_i n m;have:=hl.Q1;subst this;have:=hc.Q1;subst this;simp only[Qn.holds,decide_eq_true_eq]at h;obtain⟨h0,h1,h2,h3,h⟩:=h;split at h
    ·exact h.elim
    ·rename_i z hz;have ez:=Kd hz;obtain⟨inf,hn,i1,i2,i3⟩:=ht.inf;have hrun:=run_make (P:=P) w t e inf i.zero htt.und hn i3 .i64 .i64 n m h0 h1 (by rw[i2];exact h2) h3;rw[i1]at hrun;have hzz:=Qee (n:=m.toNat) (M:=M) (ρ:=ρ) ht.zsz ht.zon;have hzl:z.length=i.size:=by have:=congrArg List.length ez;simpa[ht.zsz]using this.symm
     have hnm:n.toNat≤m.toNat:=by omega
     refine Qbu (o:=.vec e i.size (List.replicate n.toNat z)) hm hrun rfl rfl rfl ?_ (fun r c hr hc=>?_) (fun r c y hr hy=>?_) (fun ρ' hρ=>?_) h
     ·simp only[Qa.len,List.length_replicate,size_madeCells];exact Nat.mul_le_mul_right _ hnm
     ·simp only[Qa.len,List.length_replicate]at hr;have hlt:r*i.size+c<(madeCells i.zero.cells (m.toNat*i.size)).size:=by rw[size_madeCells];have:=Nat.mul_le_mul_right i.size (show r+1≤m.toNat by omega);rw[Nat.succ_mul]at this;omega
      exact⟨_,Array.getElem?_eq_getElem hlt,hzz.one _ _ (Array.getElem?_eq_getElem hlt)⟩
     ·simp only[Qa.len,List.length_replicate]at hr;simp only[Qa.row,List.getD,List.getElem?_replicate,hr,if_true,Option.getD_some]at hy;have hc:c<i.size:=by have:=(List.getElem?_eq_some_iff.1 hy).1;simp[hzl]at this;exact this
      refine⟨hc,fun v hv=>hzz.rep _ v y hv ?_⟩;have hl2:(i.zero.cells.toList.map SV.lit).length=i.size:=by simp[ht.zsz]
      rw[Qfi (by rw[hl2];have:=Nat.mul_le_mul_right i.size (show r+1≤m.toNat by omega);rw[Nat.succ_mul]at this;omega),hl2];rw[Nat.mul_comm,Nat.mul_add_mod,Nat.mod_eq_of_lt hc,ez];exact hy
     ·exact .sl _ _ 0 n.toNat m.toNat 0 _ hρ (by simp) (by show(0+m.toNat)*i.size≤(madeCells i.zero.cells (m.toNat*i.size)).size;rw[size_madeCells,Nat.zero_add];exact Nat.le_refl _) hnm (by omega)
   ·exact h.elim
 ·exact h.elim
def Kw(i:TI):Option ((row:List Ty)×Els row):=match i.row with
 |none=>none
 |some row=>match Js (i.zero.cells.toList.map SV.lit)with
  |none=>none
  |some z=>match ofRow row z with
   |some x=>if row.length=i.size then some ⟨row,x⟩else none
   |none=>none
def Qm6(tab:Qo)(H:List Qa)(t:Nat)(l c:SV):Qn:=
 match tab.lookup t with
 |some {desc:=.slice e,..}=>match tab.lookup e with
  |none=>.fail
  |some i=>match Kw i with
   |none=>Qf6 tab H t l c
   |some ⟨row,x⟩=>match l,c with
    |.pv (.lit (.int .i64 n)),.pv (.lit (.int .i64 m))=>.need (decide (0≤n)) <| .need (decide (n≤m)) <| .need (decide ((i.bytes:Int)*m≤281474976710656)) <| .need (decide (m≤9223372036854775807)) <|
      .eff (.sl H.length i.size 0 n.toNat) (H++[.tvec e row (List.replicate n.toNat x)]) [] []
    |_,_=>.fail
 |_=>.fail
theorem Ze2{P:Program}{tab:Qo}(htab:Qf P tab){M:Qc}{ρ:Env}{H:List Qa}{w:World}{K:Qr}(hm:Mem M ρ H w){t:Nat}{l c:SV}{v u:Value}(hl:Qe M ρ v l)(hc:Qe M ρ u c)
  (h:(Qm6 tab H t l c).holds H K):Qv P (Instr.makeSlice t v u) M ρ H w K:=by
 unfold Qm6 at h;split at h
 ·rename_i e sz' by' zr rw' hte;split at h
  ·exact h.elim
  ·rename_i i hi;split at h
   ·exact Qyo htab hm hl hc h
   ·rename_i row x hz;split at h
    ·rename_i n m;refine Qv.described (Qyo htab hm hl hc ?_);unfold Kw at hz;split at hz
     ·cases hz
     ·rename_i row0 hrow;split at hz
      ·cases hz
      ·rename_i z hzz;split at hz
       ·rename_i x0 hx0;split at hz
        ·rename_i hlen;cases hz;unfold Qf6;simp only[hte,hi,hzz];obtain⟨h1,h2,h3,h4,h⟩:=h;refine⟨h1,h2,h3,h4,?_⟩;obtain⟨g1,g2⟩:=Kk hx0;rw[←hlen];rw[←hlen]at h;show Qft _ _ (fun y H'=>K y H' [] []);refine Qe7 (by simp) (fun k r' hr=>?_) h;simp only[Qu,List.getElem?_map,Option.map_eq_some_iff]at hr;obtain⟨y,hy,rfl⟩:=hr;rw[List.getElem?_replicate]at hy;split at hy
         ·rename_i hk;cases hy;exact⟨z,by rw[List.getElem?_replicate,if_pos hk],g2⟩
         ·cases hy
        ·cases hz
       ·cases hz
    ·exact h.elim
 ·exact h.elim
def Qe2(tab:Qo)(H:List Qa)(t t':Nat)(n:Int):Qn:=
 match tab.lookup t with
 |some {desc:=.slice e,..}=>match tab.lookup e with
  |none=>.fail
  |some i=>match tab.lookup t' with
   | some { desc := .int _,.. }=>.need (decide (0 < n)) <| .need (decide (0 < i.size)) <| .need (decide (n ≤ 9223372036854775807)) <| .need (decide (n.toNat * i.bytes ≤ 281474976710656)) <|
     match Js (i.zero.cells.toList.map SV.lit)with
     |none=>.fail
     |some z=>.eff (.sl H.length i.size 0 n.toNat) (H++[.vec e i.size (List.replicate n.toNat z)]) [] []
   |_=>.fail
 |_=>.fail
theorem Qrz{P:Program}{tab:Qo}(htab:Qf P tab){M:Qc}{ρ:Env}{H:List Qa}{w:World}{K:Qr}(hm:Mem M ρ H w){t t' ty:Nat}{k:IntKind}{n:Int}
  (h:(Qe2 tab H t t' n).holds H K):Qv P (Builtin.append_ #[t,t'] ty #[.slice none 0 0,.int k n]) M ρ H w K:=by
 unfold Qe2 at h;split at h
 ·rename_i e sz by' zr rw' hte;have htt:=htab.get hte;split at h
  ·exact h.elim
  ·rename_i i hi;have ht:=htab.get hi;split at h
   ·rename_i kn sz2 by2 zr2 rw2 hte2;simp only[Qn.holds,decide_eq_true_eq]at h;obtain⟨h0,h1,h2,h3,h⟩:=h;split at h
    ·exact h.elim
    ·rename_i z hz;have ez:=Kd hz;obtain⟨inf,hn,i1,i2,i3⟩:=ht.inf;obtain⟨m,rfl⟩:∃m:Nat,n=m:=⟨n.toNat,by omega⟩;simp only[Int.toNat_natCast]at h h3;have hrun:=Lib.run_append_nil_zeros (P:=P) w t t' ty e inf i.zero k kn htt.und (htab.get hte2).und hn i3 m (by omega) (by rw[i1];exact h1) h2 (by rw[i2];exact h3);have hge:=grownCap_ge w m 0 e;have hgm:grownCap w m 0 e≤9223372036854775807:=grownCap_le_maxLen w m 0 e (by unfold maxLen;omega);generalize hgc:grownCap w m 0 e=gc at hrun hge hgm;have hcells:Builtin.zeroCells i.zero.cells m++Builtin.zeroCells i.zero.cells (gc-m)=Builtin.zeroCells i.zero.cells m++Builtin.zeroCells i.zero.cells (gc-m):=rfl;have hzc:Builtin.zeroCells i.zero.cells m=madeCells i.zero.cells (m*i.size):=by rw[←ht.zsz];rfl
     have hzz:=Qee (n:=m) (M:=M) (ρ:=ρ) ht.zsz ht.zon;have hzl:z.length=i.size:=by have:=congrArg List.length ez;simpa[ht.zsz]using this.symm
     rw[hzc]at hrun;have hsz1:(madeCells i.zero.cells (m*i.size)).size=m*i.size:=size_madeCells ..;have hleft:∀k,k<m*i.size→(madeCells i.zero.cells (m*i.size)++Builtin.zeroCells i.zero.cells (gc-m))[k]? =(madeCells i.zero.cells (m*i.size))[k]? :=fun k hk=>Array.getElem?_append_left (by rw[hsz1];exact hk);have hsz2:(madeCells i.zero.cells (m*i.size)++Builtin.zeroCells i.zero.cells (gc-m)).size=gc*i.size:=by rw[Array.size_append,hsz1];simp only[Builtin.zeroCells,Array.size_map,Array.size_range,ht.zsz];rw[←Nat.add_mul];congr 1;omega
     have fl:∀r c,r<m→c<i.size→r*i.size+c<m*i.size:=fun r c hr hc=>by have:=Nat.mul_le_mul_right i.size (show r+1≤m from hr);rw[Nat.succ_mul]at this;omega
     refine Qbu (o:=.vec e i.size (List.replicate m z)) hm hrun rfl rfl rfl ?_ (fun r c hr hc=>?_) (fun r c y hr hy=>?_) (fun ρ' hρ=>?_) h
     ·simp only[Qa.len,List.length_replicate];rw[hsz2];exact Nat.mul_le_mul_right _ hge
     ·simp only[Qa.len,List.length_replicate]at hr;have hlt:=fl r c hr hc;rw[hleft _ hlt];exact⟨_,Array.getElem?_eq_getElem (by rw[hsz1];exact hlt),hzz.one _ _ (Array.getElem?_eq_getElem (by rw[hsz1];exact hlt))⟩
     ·simp only[Qa.len,List.length_replicate]at hr;simp only[Qa.row,List.getD,List.getElem?_replicate,hr,if_true,Option.getD_some]at hy;have hc:c<i.size:=by have:=(List.getElem?_eq_some_iff.1 hy).1;simp[hzl]at this;exact this
      refine⟨hc,fun v hv=>hzz.rep (r*i.size+c) v y (by rw[hleft _ (fl r c hr hc)]at hv;exact hv) ?_⟩;have hl2:(i.zero.cells.toList.map SV.lit).length=i.size:=by simp[ht.zsz]
      rw[Qfi (by rw[hl2];exact fl r c hr hc),hl2];rw[Nat.mul_comm,Nat.mul_add_mod,Nat.mod_eq_of_lt hc,ez];exact hy
     ·exact .sl _ _ 0 m gc 0 _ hρ (by simp) (by show(0+gc)*i.size≤_;rw[hsz2,Nat.zero_add];exact Nat.le_refl _) hge hgm
   ·exact h.elim
 ·exact h.elim
def Qj0(tab:Qo)(H:List Qa)(t t':Nat)(n:Int):Qn:=
 match tab.lookup t with
 |some {desc:=.slice e,..}=>match tab.lookup e with
  |none=>.fail
  |some i=>match Kw i with
   |none=>Qe2 tab H t t' n
   |some ⟨row,x⟩=>match tab.lookup t' with
    |some {desc:=.int _,..}=>.need (decide (0<n)) <| .need (decide (0<i.size)) <| .need (decide (n≤9223372036854775807)) <| .need (decide (n.toNat*i.bytes≤281474976710656)) <|
     .eff (.sl H.length i.size 0 n.toNat) (H++[.tvec e row (List.replicate n.toNat x)]) [] []
    |_=>.fail
 |_=>.fail
theorem Zig{P:Program}{tab:Qo}(htab:Qf P tab){M:Qc}{ρ:Env}{H:List Qa}{w:World}{K:Qr}(hm:Mem M ρ H w){t t' ty:Nat}{k:IntKind}{n:Int}
  (h:(Qj0 tab H t t' n).holds H K):Qv P (Builtin.append_ #[t,t'] ty #[.slice none 0 0,.int k n]) M ρ H w K:=by
 unfold Qj0 at h;split at h
 ·rename_i e sz' by' zr rw' hte;split at h
  ·exact h.elim
  ·rename_i i hi;split at h
   ·exact Qrz htab hm h
   ·rename_i row x hz;split at h
    ·rename_i kn sz2 by2 zr2 rw2 hte2;refine Qv.described (Qrz htab hm ?_);unfold Kw at hz;split at hz
     ·cases hz
     ·rename_i row0 hrow;split at hz
      ·cases hz
      ·rename_i z hzz;split at hz
       ·rename_i x0 hx0;split at hz
        ·rename_i hlen;cases hz;unfold Qe2;simp only[hte,hi,hte2,hzz];obtain⟨h1,h2,h3,h4,h⟩:=h;refine⟨h1,h2,h3,h4,?_⟩;obtain⟨g1,g2⟩:=Kk hx0;rw[←hlen];rw[←hlen]at h;show Qft _ _ (fun y H'=>K y H' [] []);refine Qe7 (by simp) (fun k r' hr=>?_) h;simp only[Qu,List.getElem?_map,Option.map_eq_some_iff]at hr;obtain⟨y,hy,rfl⟩:=hr;rw[List.getElem?_replicate]at hy;split at hy
         ·rename_i hk;cases hy;exact⟨z,by rw[List.getElem?_replicate,if_pos hk],g2⟩
         ·cases hy
        ·cases hz
       ·cases hz
    ·exact h.elim
 ·exact h.elim
def Zv{α:Type}(P:Program):Sem α→Option α
 |.pure a=>some a
 |.program k=>Zv P (k P)
 |.mark _ k=>Zv P k
 |_=>none
theorem Kn{α:Type}{P:Program}{S:Sem α}{a:α}(h:Zv P S=some a)(w:World):S.run P w=.ok a w:=by
 induction S with
 |pure b=>simp[Zv]at h;subst h;rfl
 |program k ih=>simp only[Zv]at h;simp only[Sem.run];exact ih P h
 |mark m k ih=>simp only[Zv]at h;simp only[Sem.run];exact ih h
 |_=>simp[Zv]at h
def V5(tab:Qo)(t:Nat)(x:SV)(f:Nat):Qn:=
 match tab.lookup t with
 |some {desc:=.struct fields,..}=>match fields[f]? with
  |none=>.fail
  |some fd=>match tab.lookup fd.type with
   |none=>.fail
   |some i=>if i.size=0 then .fail else match x with
    |.ptr s sz r j=>.ok (.ptr s sz r (j+fd.offset))
    |.pv (.rptr sz rows r j)=>.ok (.pv (.rptr sz rows r (j+fd.offset)))
    |_=>.fail
 |_=>.fail
theorem Zd9{P:Program}{tab:Qo}(htab:Qf P tab){M:Qc}{ρ:Env}{H:List Qa}{w:World}{K:Qr}(hm:Mem M ρ H w){t f:Nat}{x:SV}{v:Value}(hx:Qe M ρ v x)
  (h:(V5 tab t x f).holds H K):Qv P (Instr.fieldAt t v f) M ρ H w K:=by
 unfold V5 at h;split at h
 ·rename_i fields sz' by' zr rw' hte;have htt:=htab.get hte;split at h
  ·exact h.elim
  ·rename_i fd hfd;split at h
   ·exact h.elim
   ·rename_i i hi;obtain⟨n,hn,i1,_⟩:=(htab.get hi).inf;split at h
    ·exact h.elim
    ·rename_i hz;have key:∀b k,(Instr.fieldAt t (.pointer (some ⟨b,k,none⟩)) f).run P w=.ok (.pointer (some ⟨b,k+fd.offset,none⟩)) w:=fun b k=>by simp[Instr.fieldAt,run_underlying htt.und,hfd,Instr.sureAddr,fieldPlace,sizeOf,typeInfo,hn,i1,hz,Addr.add_mid]
     split at h
     ·rename_i s sz r j;cases hx with
      |ptr _ _ _ _ k p hp hk=>exact Qv.same hm (key _ _) (.ptr _ _ _ _ _ p hp (by omega)) h
     ·rename_i sz rows r j;cases hx with
      |pv hp=>cases hp with
       |rptr b off _ _ _ k _ hk h0 h1 h2=>exact Qv.same hm (key _ _) (.pv (.rptr b off sz r (j+fd.offset) _ rows (by omega) h0 h1 h2)) h
     ·exact h.elim
 ·exact h.elim
def Vu(tab:Qo)(t:Nat)(x ix:SV):Qn:=
 match ix with
 |.pv (.lit (.int k n))=>match tab.lookup t with
  |some {desc:=.slice e,..}=>match tab.lookup e with
   |none=>.fail
   |some i=>match x with
    |.sl s sz st len=>if sz=i.size then .need (decide (0≤n)) (.need (decide (n<len)) (.ok (.ptr s sz (st+n.toNat) 0)))else .fail
    |.pv (.rsl sz rows)=>if sz=i.size then .need (decide (0≤n)) (.need (decide (n<rows.length)) (.ok (.pv (.rptr sz rows n.toNat 0))))else .fail
    |_=>.fail
  |some {desc:=.array m e,..}=>match tab.lookup e with
   |none=>.fail
   |some i=>match x with
    |.ptr s sz r j=>.need (decide (0≤n)) (.need (decide (n<m)) (.ok (.ptr s sz r (j+n.toNat*i.size))))
    |.pv (.rptr sz rows r j)=>.need (decide (0≤n)) (.need (decide (n<m)) (.ok (.pv (.rptr sz rows r (j+n.toNat*i.size)))))
    |_=>.fail
  |_=>.fail
 |_=>.fail
theorem Qek{P:Program}{w:World}{t e:Nat}{i:TI}(hu:P.underlying t=some (.slice e))(he:Yf P e i){k:IntKind}{n:Int}{b o len c:Nat}(h0:0≤n)(h1:n<len):
  (Instr.indexAt t (.slice (some ⟨b,o,none⟩) len c) (.int k n)).run P w=.ok (.pointer (some ⟨b,o+n.toNat*i.size,none⟩)) w:=by
 obtain⟨inf,hn,i1,_⟩:=he.inf;simp[Instr.indexAt,asIntOf,run_underlying hu,h0,h1,sizeOf,typeInfo,hn,i1,Addr.add_mid]
theorem Qet{P:Program}{w:World}{t e m:Nat}{i:TI}(hu:P.underlying t=some (.array m e))(he:Yf P e i){k:IntKind}{n:Int}{b o:Nat}(h0:0≤n)(h1:n<m):
  (Instr.indexAt t (.pointer (some ⟨b,o,none⟩)) (.int k n)).run P w=.ok (.pointer (some ⟨b,o+n.toNat*i.size,none⟩)) w:=by
 obtain⟨inf,hn,i1,_⟩:=he.inf;simp[Instr.indexAt,asIntOf,run_underlying hu,h0,h1,Instr.sureAddr,sizeOf,typeInfo,hn,i1,Addr.add_mid]
theorem Zmc{P:Program}{tab:Qo}(htab:Qf P tab){M:Qc}{ρ:Env}{H:List Qa}{w:World}{K:Qr}(hm:Mem M ρ H w){t:Nat}{x ix:SV}{v u:Value}(hx:Qe M ρ v x)(hix:Qe M ρ u ix)
  (h:(Vu tab t x ix).holds H K):Qv P (Instr.indexAt t v u) M ρ H w K:=by
 unfold Vu at h;split at h
 ·rename_i k n;have:=hix.Q1;subst this;split at h
  ·rename_i e sz' by' zr rw' hte;have htt:=htab.get hte;split at h
   ·exact h.elim
   ·rename_i i hi;have ht:=htab.get hi;split at h
    ·rename_i s sz st len;split at h
     ·rename_i hsz;subst hsz;simp only[Qn.holds,decide_eq_true_eq]at h;obtain⟨h0,h1,h⟩:=h;cases hx with
      |sl _ _ _ _ c k' p hp hk hc hn h6=>refine Qv.same hm (Qek htt.und ht h0 h1) (.ptr _ _ _ _ _ p hp ?_) h;rw[hk,Nat.add_mul];omega
      |slz=>simp at h1;omega
     ·exact h.elim
    ·rename_i sz rows;split at h
     ·rename_i hsz;subst hsz;simp only[Qn.holds,decide_eq_true_eq]at h;obtain⟨h0,h1,h⟩:=h;cases hx with
      |pv hp=>cases hp with
       |rnil=>simp at h1;omega
       |remp=>simp at h1;omega
       |rsl b off c _ n' _ hn hc g0 g1 g2=>refine Qv.same hm (Qek htt.und ht h0 (by omega)) (.pv (.rptr b off i.size n.toNat 0 _ rows (by omega) g0 g1 g2)) h
     ·exact h.elim
    ·exact h.elim
  ·rename_i m e sz' by' zr rw' hte;have htt:=htab.get hte;split at h
   ·exact h.elim
   ·rename_i i hi;have ht:=htab.get hi;split at h
    ·rename_i s sz r j;simp only[Qn.holds,decide_eq_true_eq]at h;obtain⟨h0,h1,h⟩:=h;cases hx with
     |ptr _ _ _ _ k' p hp hk=>exact Qv.same hm (Qet htt.und ht h0 h1) (.ptr _ _ _ _ _ p hp (by omega)) h
    ·rename_i sz rows r j;simp only[Qn.holds,decide_eq_true_eq]at h;obtain⟨h0,h1,h⟩:=h;cases hx with
     |pv hp=>cases hp with
      |rptr b off _ _ _ k' _ hk g0 g1 g2=>exact Qv.same hm (Qet htt.und ht h0 h1) (.pv (.rptr b off sz r _ _ rows (by omega) g0 g1 g2)) h
    ·exact h.elim
  ·exact h.elim
 ·exact h.elim
def bound:Option SV→Int→Option Int
 |none,d=>some d
 |some (.pv (.lit (.int _ n))),_=>some n
 |_,_=>none
def Ud(tab:Qo)(H:List Qa)(t:Nat)(x:SV)(lo hi:Option SV):Qn:=
 match tab.lookup t with
 |some {desc:=.slice e,..}=>match tab.lookup e with
  |none=>.fail
  |some i=>match x with
   |.sl s sz st len=>if sz=i.size then match bound lo 0,bound hi len with
    |some l,some h=>.need (decide (0≤l)) <| .need (decide (l≤h)) <| .need (decide (h≤len)) (.ok (.sl s sz (st+l.toNat) (h.toNat-l.toNat)))
    |_,_=>.fail
    else .fail
   |.slb s sz st len m=>if sz=i.size then match bound lo 0,bound hi len with
    |some l,some h=>.need (decide (0≤l)) <| .need (decide (l≤h)) <| .need (decide (h≤m)) (.ok (.slb s sz (st+l.toNat) (h.toNat-l.toNat) (m-l.toNat)))
    |_,_=>.fail
    else .fail
   |.pv (.rsl sz rows)=>if sz=i.size then match bound lo 0,bound hi rows.length with
    |some l,some h=>.need (decide (0≤l)) <| .need (decide (l≤h)) <| .need (decide (h≤rows.length)) (.ok (.pv (.rsl sz ((rows.take h.toNat).drop l.toNat))))
    |_,_=>.fail
    else .fail
   |.pv (.lit (.slice none 0 0))=>match bound lo 0,bound hi 0 with
    |some l,some h=>.need (decide (l=0)) <| .need (decide (h=0)) (.ok (.lit (.slice none 0 0)))
    |_,_=>.fail
   |_=>.fail
 |some {desc:=.string,..}=>match x with
  |.pv (.lit (.string b))=>match bound lo 0,bound hi b.size with
   |some l,some h=>.need (decide (0≤l)) <| .need (decide (l≤h)) <| .need (decide (h≤b.size)) (.ok (.lit (.string (b.extract l.toNat h.toNat))))
   |_,_=>.fail
  |_=>.fail
 |some {desc:=.pointer arr,..}=>.fail
 |some {desc:=.array n e,..}=>match tab.lookup e with
  |none=>.fail
  |some i=>match x with
   |.ptr s sz r j=>match H[s]? with
    |none=>.fail
    |some o=>match o.Qx,bound lo 0,bound hi n with
     | some szo,some l,some h=>if i.size = 0 ∨ n > 9223372036854775807 then .fail else .need (decide ((r * sz + j) % i.size = 0)) <| .need (decide (r * sz + j + n * i.size ≤ o.len * szo)) <|
       .need (decide (0≤l)) <| .need (decide (l≤h)) <| .need (decide (h≤n)) (.ok (.sl s i.size ((r*sz+j)/i.size+l.toNat) (h.toNat-l.toNat)))
     |_,_,_=>.fail
   |_=>.fail
 |_=>.fail
theorem Yb{M:Qc}{ρ:Env}{a:Option SV}{va:Option Value}{d n:Int}(hs:va.isSome=a.isSome)(hr:∀v x,va=some v→a=some x→Qe M ρ v x)(h:bound a d=some n):
  (va=none∧n=d)∨∃k,va=some (.int k n):=by
 match a,va,hs with
 |none,none,_=>simp[bound]at h;exact .inl ⟨rfl,h.symm⟩
 |some x,some v,_=>
  have:=hr v x rfl rfl;match x,h with
  |.pv (.lit (.int k m)),h=>simp[bound]at h;subst h;exact .inr ⟨k,by rw[this.Q1]⟩
theorem Qb9{P:Program}{w:World}{isSl:Bool}{len cap:Nat}{vl vh:Option Value}{l h:Int}(hl:(vl=none∧l=0)∨∃k,vl=some (.int k l))(hh:(vh=none∧h=len)∨∃k,vh=some (.int k h))
  (h0:0≤l) (h1:l≤h) (h2:h≤cap):(Instr.sliceBounds isSl len cap vl vh none).run P w=.ok (l.toNat,h.toNat,cap) w:=by
 have h2':h.toNat≤cap:=by omega
 have hcast:(0:Int)≤h:=by omega
 have hlt:l≤(h.toNat:Int):=by omega
 rcases hl with⟨rfl,rfl⟩|⟨k,rfl⟩<;>rcases hh with⟨rfl,rfl⟩|⟨k',rfl⟩<;>
  (try simp only[Int.toNat_natCast]at hlt)<;>simp[Instr.sliceBounds,Instr.sliceBound,asIntOf,h0,h1,h2,hcast,hlt]
 intro hx;omega
theorem Xc{P:Program}{w:World}{t e:Nat}{i:TI}(hu:P.underlying t=some (.slice e))(he:Yf P e i){a:Option Addr}{len cap:Nat}{vl vh:Option Value}{l h:Int}
  (hl:(vl=none∧l=0)∨∃k,vl=some (.int k l)) (hh:(vh=none∧h=len)∨∃k,vh=some (.int k h)) (h0:0≤l) (h1:l≤h) (h2:h≤cap):
  (Instr.sliceAt t (.slice a len cap) vl vh none).run P w=.ok (.slice (if cap=l.toNat then a else a.map (·.add (l.toNat*i.size))) (h.toNat-l.toNat) (cap-l.toNat)) w:=by
 obtain⟨inf,hn,i1,_⟩:=he.inf;simp[Instr.sliceAt,Instr.slice,run_underlying hu,Qb9 hl hh h0 h1 h2,sizeOf,typeInfo,hn,i1]
theorem Zpq{P:Program}{tab:Qo}(htab:Qf P tab){M:Qc}{ρ:Env}{H:List Qa}{w:World}{K:Qr}(hm:Mem M ρ H w){t:Nat}{x:SV}{lo hi:Option SV}{v:Value}{vl vh:Option Value}
  (hx:Qe M ρ v x) (hsl:vl.isSome=lo.isSome) (hrl:∀v x,vl=some v→lo=some x→Qe M ρ v x) (hsh:vh.isSome=hi.isSome) (hrh:∀v x,vh=some v→hi=some x→Qe M ρ v x)
  (h:(Ud tab H t x lo hi).holds H K):Qv P (Instr.sliceAt t v vl vh none) M ρ H w K:=by
 unfold Ud at h;split at h
 ·rename_i e sz' by' zr rw' hte;have htt:=htab.get hte;split at h
  ·exact h.elim
  ·rename_i i hi';have ht:=htab.get hi';split at h
   ·rename_i s sz st len;split at h
    ·rename_i hsz;subst hsz;split at h
     ·rename_i l hh e1 e2;simp only[Qn.holds,decide_eq_true_eq]at h;obtain⟨h0,h1,h2,h⟩:=h;have bl:=Yb hsl hrl e1;have bh:=Yb hsh hrh e2;cases hx with
      |sl _ _ _ _ c k p hp hk hc hn h6=>
       refine Qv.same hm (Xc htt.und ht bl bh h0 h1 (by omega)) ?_ h;by_cases hcl:c=l.toNat
       ·have e0:hh.toNat-l.toNat=0:=by omega
        rw[if_pos hcl,e0,hcl,Nat.sub_self];exact .slz _ _ _ _
       ·rw[if_neg hcl];simp only[Option.map_some,Addr.add_mid];refine .sl _ _ _ _ _ _ p hp (by rw[hk,Nat.add_mul]) ?_ (by omega) (by omega);rw[show st+l.toNat+(c-l.toNat)=st+c by omega];exact hc
      |slz a b c' a'=>
       refine Qv.same hm (Xc htt.und ht bl bh h0 h1 (by omega)) ?_ h;have hl0:l.toNat=0:=by omega
       have hh0:hh.toNat=0:=by omega
       rw[hl0,hh0];simp only[Nat.sub_self,if_true];exact .slz _ _ _ _
     ·exact h.elim
    ·exact h.elim
   ·rename_i s sz st len m;split at h
    ·rename_i hsz;subst hsz;split at h
     ·rename_i l hh e1 e2;simp only[Qn.holds,decide_eq_true_eq]at h;obtain⟨h0,h1,h2,h⟩:=h;have bl:=Yb hsl hrl e1;have bh:=Yb hsh hrh e2;cases hx with
      |slb _ _ _ _ _ hx hmc=>
      obtain⟨_,_,c9,e9,hmc⟩:=hmc;cases hx with
      |sl _ _ _ _ c k p hp hk hc hn h6=>
       injection e9 with _ _ e9;subst e9;refine Qv.same hm (Xc htt.und ht bl bh h0 h1 (by omega)) ?_ h;by_cases hcl:c=l.toNat
       ·have e0:hh.toNat-l.toNat=0:=by omega
        have e00:m-l.toNat=0:=by omega
        rw[if_pos hcl,e0,e00,hcl,Nat.sub_self];exact .slb _ _ _ _ _ (.slz _ _ _ _) ⟨_,_,_,rfl,Nat.le_refl _⟩
       ·rw[if_neg hcl];simp only[Option.map_some,Addr.add_mid];refine .slb _ _ _ _ _ (.sl _ _ _ _ _ _ p hp (by rw[hk,Nat.add_mul]) ?_ (by omega) (by omega)) ⟨_,_,_,rfl,by omega⟩;rw[show st+l.toNat+(c-l.toNat)=st+c by omega];exact hc
      |slz a b c' a'=>
       injection e9 with _ _ e9;subst e9;refine Qv.same hm (Xc htt.und ht bl bh h0 h1 (by omega)) ?_ h;have hl0:l.toNat=0:=by omega
       have hh0:hh.toNat=0:=by omega
       have hm0:m=0:=by omega
       subst hm0;rw[hl0,hh0];simp only[Nat.sub_self,if_true];exact .slb _ _ _ _ _ (.slz _ _ _ _) ⟨_,_,_,rfl,Nat.le_refl _⟩
     ·exact h.elim
    ·exact h.elim
   ·rename_i sz rows;split at h
    ·rename_i hsz;subst hsz;split at h
     ·rename_i l hh e1 e2;simp only[Qn.holds,decide_eq_true_eq]at h;obtain⟨h0,h1,h2,h⟩:=h;have bl:=Yb hsl hrl e1;have bh:=Yb hsh hrh e2;cases hx with
      |pv hp=>
       have hlen:((rows.take hh.toNat).drop l.toNat).length=hh.toNat-l.toNat:=by simp;omega
       cases hp with
       |rnil=>
        refine Qv.same hm (Xc htt.und ht bl (by simpa using bh) h0 h1 (by simpa using h2)) ?_ h;have hl0:l.toNat=0:=by simp at h2;omega
        have hh0:hh.toNat=0:=by simp at h2;omega
        rw[hl0,hh0];simp;exact .pv (.rnil _)
       |remp a c=>
        refine Qv.same hm (Xc htt.und ht bl (by simpa using bh) h0 h1 (by simp at h2;omega)) ?_ h;have hl0:l.toNat=0:=by simp at h2;omega
        have hh0:hh.toNat=0:=by simp at h2;omega
        rw[hl0,hh0];simp only[List.take_nil,List.drop_nil,Nat.sub_zero,Nat.zero_mul];split
        ·exact .pv (.remp _ _ _)
        ·exact .pv (.remp _ _ _)
       |rsl b off c _ n' _ hn hc g0 g1 g2=>
        subst hn;refine Qv.same hm (Xc htt.und ht bl bh h0 h1 (by omega)) ?_ h;by_cases hcl:c=l.toNat
        ·have e0:hh.toNat-l.toNat=0:=by omega
         have:(rows.take hh.toNat).drop l.toNat=[]:=List.eq_nil_of_length_eq_zero (by rw[hlen,e0]);rw[if_pos hcl,this,e0,hcl,Nat.sub_self];exact .pv (.remp _ _ _)
        ·rw[if_neg hcl];simp only[Option.map_some,Addr.add_mid];have at':∀(m:Nat) (r:List PV),((rows.take hh.toNat).drop l.toNat)[m]? =some r→rows[l.toNat+m]? =some r:=fun m r hm'=>by
          rw[List.getElem?_drop,List.getElem?_take]at hm';split at hm'
          ·exact hm'
          ·cases hm'
         have mul:∀m j:Nat,off+l.toNat*i.size+m*i.size+j=off+(l.toNat+m)*i.size+j:=fun m j=>by rw[Nat.add_mul];omega
         refine .pv (.rsl b (off+l.toNat*i.size) (c-l.toNat) i.size _ _ hlen.symm (by omega) (fun m j hm' hj=>?_) (fun m r j p u hm' hj hu=>?_) (fun m r hm'=>g2 _ r (at' m r hm')))
         ·rw[mul];rw[hlen]at hm';exact g0 _ j (by omega) hj
         ·rw[mul]at hu;exact g1 _ r j p u (at' m r hm') hj hu
     ·exact h.elim
    ·exact h.elim
   ·split at h
    ·rename_i l hh e1 e2;simp only[Qn.holds,decide_eq_true_eq]at h;obtain⟨h0,h1,h⟩:=h;have:=hx.Q1;subst this;subst h0;subst h1;have bl:=Yb hsl hrl e1;have bh:=Yb hsh hrh e2;have:=Xc (w:=w) (a:=none) (len:=0) (cap:=0) htt.und ht bl (by simpa using bh) (Int.le_refl _) (Int.le_refl _) (by simp);exact Qv.same hm this (.pv (.lit _)) h
    ·exact h.elim
   ·exact h.elim
 ·rename_i sz' by' zr rw' hte;have htt:=htab.get hte;split at h
  ·rename_i b;split at h
   ·rename_i l hh e1 e2;simp only[Qn.holds,decide_eq_true_eq]at h;obtain⟨h0,h1,h2,h⟩:=h;have:=hx.Q1;subst this;have bl:=Yb hsl hrl e1;have bh:=Yb hsh hrh e2;refine Qv.same hm ?_ (.pv (.lit _)) h;have hu:P.underlying t=some .string:=htt.und;simp[Instr.sliceAt,Instr.slice,run_underlying hu,Qb9 bl bh h0 h1 h2]
   ·exact h.elim
  ·exact h.elim
 ·exact h.elim
 ·rename_i n e sz' by' zr rw' hte;have htt:=htab.get hte;split at h
  ·exact h.elim
  ·rename_i i hi';have ht:=htab.get hi';obtain⟨inf,hinf,i1,_⟩:=ht.inf;split at h
   ·rename_i s sz r j;split at h
    ·exact h.elim
    ·rename_i o ho;split at h
     ·rename_i szo l hh hz e1 e2;split at h
      ·exact h.elim
      ·rename_i hi0;simp only[Qn.holds,decide_eq_true_eq]at h;obtain⟨hdiv,hfit,h0,h1,h2,h⟩:=h;have bl:=Yb hsl hrl e1;have bh:=Yb hsh hrh e2;cases hx with
       |ptr _ _ _ _ k p hp hk=>
        obtain⟨cs,ty,a1,a2,a3,a4,a5⟩:=((hm.own s o ho).rowOf hz hp).ex;have hrun:(Instr.sliceAt t (.pointer (some ⟨p.block,k,none⟩)) vl vh none).run P w=.ok (.slice (some (if n=l.toNat then⟨p.block,k,none⟩else⟨p.block,k+l.toNat*i.size,none⟩)) (hh.toNat-l.toNat) (n-l.toNat)) w:=by have hu:P.underlying t=some (.array n e):=htt.und;simp[Instr.sliceAt,run_underlying hu,Instr.sureAddr,Qb9 bl bh h0 h1 h2,sizeOf,typeInfo,hinf,i1,Addr.add_mid]
        refine Qv.same hm hrun ?_ h;by_cases hcl:n=l.toNat
        ·have e0:hh.toNat-l.toNat=0:=by omega
         have e1':n-l.toNat=0:=by omega
         rw[if_pos hcl,e0,e1'];exact .slz _ _ _ _
        ·rw[if_neg hcl];have hb:(r*sz+j)/i.size*i.size=r*sz+j:=by have:=Nat.div_add_mod' (r*sz+j) i.size;omega
         refine .sl _ _ _ _ _ _ p hp (by rw[Nat.add_mul,hb,hk]) ?_ (by omega) (by omega);rw[show(r*sz+j)/i.size+l.toNat+(n-l.toNat)=(r*sz+j)/i.size+n by omega,Nat.add_mul,hb];omega
     ·exact h.elim
   ·exact h.elim
 ·exact h.elim
def Ul(tab:Qo)(H:List Qa)(t:Nat)(x:SV):Qn:=
 match tab.lookup t with
 |some {desc:=.slice _,..}=>match x with
  |.sl _ _ _ len=>.ok (.lit (.int .i64 len))
  |.slb _ _ _ len _=>.ok (.lit (.int .i64 len))
  |.pv (.rsl _ rows)=>.ok (.lit (.int .i64 rows.length))
  |.pv (.lit (.slice _ n _))=>.ok (.lit (.int .i64 n))
  |_=>.fail
 |some {desc:=.string,..}=>match x with
  |.pv (.lit (.string s))=>.ok (.lit (.int .i64 s.size))
  |_=>.fail
 |some {desc:=.map _ _,..}=>match x with
  |.mp s=>match H[s]? with
   |some (.map es _)=>.ok (.lit (.int .i64 es.length))
   |some (.tmap _ _ l)=>.ok (.lit (.int .i64 l.length))
   |_=>.fail
  |.pv (.lit (.map none))=>.ok (.lit (.int .i64 0))
  |_=>.fail
 |some {desc:=.array n _,..}=>.ok (.lit (.int .i64 n))
 |_=>.fail
theorem run_getObj_map{P:Program}{w:World}{b:Nat}{es:Array MapEntry}{c:Nat}(h:w.heap[b]? =some (.map es c)):(getObj b).run P w=.ok (.map es c) w:=by simp[getObj,Sem.run,h]
theorem Zpv{P:Program}{tab:Qo}(htab:Qf P tab){M:Qc}{ρ:Env}{H:List Qa}{w:World}{K:Qr}(hm:Mem M ρ H w){t ty:Nat}{x:SV}{v:Value}(hx:Qe M ρ v x)
  (h:(Ul tab H t x).holds H K):Qv P (Builtin.len_ #[t] ty #[v]) M ρ H w K:=by
 unfold Ul at h;split at h
 ·rename_i e sz' by' zr rw' hte;have hu:P.underlying t=some (.slice e):=(htab.get hte).und;have key:∀a n c,(Builtin.len_ #[t] ty #[.slice a n c]).run P w=.ok (.int .i64 n) w:=fun a n c=>by simp[Builtin.len_,run_underlying hu,goInt]
  split at h
  ·rename_i s sz st len;cases hx with
   |sl _ _ _ _ c k p hp hk hc hn h6=>exact Qv.same hm (key _ _ _) (.pv (.lit _)) h
   |slz=>exact Qv.same hm (key _ _ _) (.pv (.lit _)) h
  ·cases hx with
   |slb _ _ _ _ _ hx hmc=>
   cases hx with
   |sl _ _ _ _ c k p hp hk hc hn h6=>exact Qv.same hm (key _ _ _) (.pv (.lit _)) h
   |slz=>exact Qv.same hm (key _ _ _) (.pv (.lit _)) h
  ·cases hx with
   |pv hp=>cases hp with
    |rnil=>exact Qv.same hm (key _ _ _) (.pv (.lit _)) h
    |remp=>exact Qv.same hm (key _ _ _) (.pv (.lit _)) h
    |rsl b off c _ n' _ hn hc g0 g1 g2=>subst hn;exact Qv.same hm (key _ _ _) (.pv (.lit _)) h
  ·have:=hx.Q1;subst this;exact Qv.same hm (key _ _ _) (.pv (.lit _)) h
  ·exact h.elim
 ·rename_i sz' by' zr rw' hte;have hu:P.underlying t=some .string:=(htab.get hte).und;split at h
  ·have:=hx.Q1;subst this;exact Qv.same hm (by simp[Builtin.len_,run_underlying hu,goInt]) (.pv (.lit _)) h
  ·exact h.elim
 ·rename_i kk ee sz' by' zr rw' hte;have hu:P.underlying t=some (.map kk ee):=(htab.get hte).und;split at h
  ·rename_i s;split at h
   ·rename_i es c ho;cases hx with
    |mp _ p hp=>obtain⟨q,arr,a1,a2,a3,_⟩:=hm.own s _ ho;rw[hp]at a1;cases a1;refine Qv.same hm (v:=.int .i64 arr.size) ?_ (by rw[a3];exact .pv (.lit _)) h;simp[Builtin.len_,run_underlying hu,run_getObj_map a2,goInt]
   ·rename_i ka va l ho;cases hx with
    |mp _ p hp=>obtain⟨q,arr,a1,a2,a3,_⟩:=hm.own s _ ho;rw[hp]at a1;cases a1;rw[W6]at a3;refine Qv.same hm (v:=.int .i64 arr.size) ?_ (by rw[a3];exact .pv (.lit _)) h;simp[Builtin.len_,run_underlying hu,run_getObj_map a2,goInt]
   ·exact h.elim
  ·have:=hx.Q1;subst this;exact Qv.same hm (by simp[Builtin.len_,run_underlying hu,goInt]) (.pv (.lit _)) h
  ·exact h.elim
 ·rename_i n e sz' by' zr rw' hte;have hu:P.underlying t=some (.array n e):=(htab.get hte).und;refine Qv.same hm ?_ (.pv (.lit _)) h;simp[Builtin.len_,run_underlying hu,goInt]
 ·exact h.elim
def Qsm(tab:Qo)(t f:Nat):Option Nat:=
 match tab.lookup t with
 |some {desc:=.struct fields,..}=>match fields[f]? with
  |none=>none
  |some fd=>match tab.lookup fd.type with
   |none=>none
   |some i=>if i.size=0 then none else some fd.offset
 |_=>none
def Qbe(tab:Qo)(t:Nat)(x:SV)(f:Nat):Qn:=
 match x with
 |.pv (.tptr row l r j)=>match Qsm tab t f with
  |some off=>.ok (.pv (.tptr row l r (j+off)))
  |none=>.fail
 |x=>V5 tab t x f
theorem Qsd{tab:Qo}{H:List Qa}{K:Qr}{t:Nat}{x:SV}{f:Nat}(h:(Qbe tab t x f).holds H K):(V5 tab t x.Zi f).holds H (Seen K):=by
 unfold Qbe at h;split at h
 ·rename_i row l r j;split at h
  ·rename_i off ho;unfold Qsm at ho;split at ho
   ·rename_i fields a b c d hte;split at ho
    ·cases ho
    ·rename_i fd hfd;split at ho
     ·cases ho
     ·rename_i i hi;split at ho
      ·cases ho
      ·rename_i hz;cases ho;simp only[V5,SV.Zi,hte,hfd,hi,if_neg hz];exact⟨_,fun M ρ v hv=>(by cases hv with|pv hv=>exact .pv (.tptr _ _ _ _ hv)),h⟩
   ·cases ho
  ·exact h.elim
 ·rename_i hx;have:x.Zi=x∨∃row l,x=.pv (.tsl row l):=by
   unfold SV.Zi;split
   ·exact .inr ⟨_,_,rfl⟩
   ·exact absurd rfl (hx _ _ _ _)
   ·exact .inl rfl
  rcases this with e|⟨row,l,rfl⟩
  ·rw[e];exact Qn.Wz (fun x H' t g hk=>Seen.of hk) h
  ·exfalso;unfold V5 at h;split at h<;>first|exact h|skip
   split at h<;>first|exact h|skip
   split at h<;>first|exact h|skip
   split at h<;>first|exact h|skip
theorem Zgw{P:Program}{tab:Qo}(htab:Qf P tab){M:Qc}{ρ:Env}{H:List Qa}{w:World}{K:Qr}(hm:Mem M ρ H w){t f:Nat}{x:SV}{v:Value}(hx:Qe M ρ v x)
  (h:(Qbe tab t x f).holds H K):Qv P (Instr.fieldAt t v f) M ρ H w K:=Qv.seen (Zd9 htab hm hx.Zi (Qsd h))
def Uz(tab:Qo)(t:Nat):Option Nat:=
 match tab.lookup t with
 |some {desc:=.slice e,..}=>match tab.lookup e with
  |none=>none
  |some i=>some i.size
 |_=>none
def Qta(tab:Qo)(t:Nat):Option (Nat×Nat):=
 match tab.lookup t with
 |some {desc:=.array m e,..}=>match tab.lookup e with
  |none=>none
  |some i=>some (m,i.size)
 |_=>none
def Qcu(tab:Qo)(t:Nat)(x ix:SV):Qn:=
 match x with
 |.pv (.tsl row l)=>match ix with
  |.pv (.lit (.int k n))=>match Uz tab t with
   |some z=>if row.length=z then .need (decide (0≤n)) (.need (decide (n<l.length)) (.ok (.pv (.tptr row l n.toNat 0))))else .fail
   |none=>.fail
  |_=>.fail
 |.pv (.tptr row l i j)=>match ix with
  |.pv (.lit (.int k n))=>match Qta tab t with
   |some (m,z)=>.need (decide (0≤n)) (.need (decide (n<m)) (.ok (.pv (.tptr row l i (j+n.toNat*z)))))
   |none=>.fail
  |_=>.fail
 |x=>Vu tab t x ix
theorem Qqu{tab:Qo}{H:List Qa}{K:Qr}{t:Nat}{x ix:SV}(h:(Qcu tab t x ix).holds H K):(Vu tab t x.Zi ix).holds H (Seen K):=by
 unfold Qcu at h;split at h
 ·rename_i row l;split at h
  ·rename_i k n;split at h
   ·rename_i z ho;split at h
    ·rename_i hz;unfold Uz at ho;split at ho
     ·rename_i e a b c d hte;split at ho
      ·cases ho
      ·rename_i i hi;cases ho;obtain⟨h1,h2,h⟩:=h;simp only[Vu,SV.Zi,hte,hi,if_pos hz];refine⟨h1,by simpa[Qu]using h2,_,fun M ρ v hv=>?_,h⟩;cases hv with|pv hv=>exact .pv (.tptr _ _ _ _ hv)
     ·cases ho
    ·exact h.elim
   ·exact h.elim
  ·exact h.elim
 ·rename_i row l r j;split at h
  ·rename_i k n;split at h
   ·rename_i m z ho;unfold Qta at ho;split at ho
    ·rename_i m' e a b c d hte;split at ho
     ·cases ho
     ·rename_i i hi;cases ho;obtain⟨h1,h2,h⟩:=h;simp only[Vu,SV.Zi,hte,hi];refine⟨h1,h2,_,fun M ρ v hv=>?_,h⟩;cases hv with|pv hv=>exact .pv (.tptr _ _ _ _ hv)
    ·cases ho
   ·exact h.elim
  ·exact h.elim
 ·rename_i h1 h2;have:x.Zi=x:=by
   unfold SV.Zi;split
   ·exact absurd rfl (h1 _ _)
   ·exact absurd rfl (h2 _ _ _ _)
   ·rfl
  rw[this];exact Qn.Wz (fun x H' t g hk=>Seen.of hk) h
theorem Za4{P:Program}{tab:Qo}(htab:Qf P tab){M:Qc}{ρ:Env}{H:List Qa}{w:World}{K:Qr}(hm:Mem M ρ H w){t:Nat}{x ix:SV}{v u:Value}(hx:Qe M ρ v x)(hix:Qe M ρ u ix)
  (h:(Qcu tab t x ix).holds H K):Qv P (Instr.indexAt t v u) M ρ H w K:=Qv.seen (Zmc htab hm hx.Zi hix (Qqu h))
def Qbv(tab:Qo)(H:List Qa)(t:Nat)(x:SV)(lo hi:Option SV):Qn:=
 match x with
 |.pv (.tsl row xs)=>match Uz tab t with
  | some z=>if row.length = z then match bound lo 0,bound hi xs.length with
    |some l,some h=>.need (decide (0≤l)) <| .need (decide (l≤h)) <| .need (decide (h≤xs.length)) (.ok (.pv (.tsl row ((xs.take h.toNat).drop l.toNat))))
    |_,_=>.fail
   else .fail
  |none=>.fail
 |.pv (.tptr ..)=>.fail
 |x=>Ud tab H t x lo hi
theorem Qzc{tab:Qo}{H:List Qa}{K:Qr}{t:Nat}{x:SV}{lo hi:Option SV}(h:(Qbv tab H t x lo hi).holds H K):(Ud tab H t x.Zi lo hi).holds H (Seen K):=by
 unfold Qbv at h;split at h
 ·rename_i row xs;split at h
  ·rename_i z ho;split at h
   ·rename_i hz;split at h
    ·rename_i l hh e1 e2;unfold Uz at ho;split at ho
     ·rename_i e a b c d hte;split at ho
      ·cases ho
      ·rename_i i hi;cases ho;obtain⟨h1,h2,h3,h⟩:=h;have hlen:(Qu row xs).length=xs.length:=by simp[Qu]
       simp only[Ud,SV.Zi,hte,hi,if_pos hz,hlen,e1,e2];refine⟨h1,h2,h3,_,fun M ρ v hv=>?_,h⟩;cases hv with|pv hv=>exact .pv (.tsl _ _ (by simpa[Qu,List.map_take,List.map_drop]using hv))
     ·cases ho
    ·exact h.elim
   ·exact h.elim
  ·exact h.elim
 ·exact h.elim
 ·rename_i h1 h2;have:x.Zi=x:=by
   unfold SV.Zi;split
   ·exact absurd rfl (h1 _ _)
   ·exact absurd rfl (h2 _ _ _ _)
   ·rfl
  rw[this];exact Qn.Wz (fun x H' t g hk=>Seen.of hk) h
theorem Zg2{P:Program}{tab:Qo}(htab:Qf P tab){M:Qc}{ρ:Env}{H:List Qa}{w:World}{K:Qr}(hm:Mem M ρ H w){t:Nat}{x:SV}{lo hi:Option SV}{v:Value}{vl vh:Option Value}
  (hx:Qe M ρ v x) (hsl:vl.isSome=lo.isSome) (hrl:∀v x,vl=some v→lo=some x→Qe M ρ v x) (hsh:vh.isSome=hi.isSome) (hrh:∀v x,vh=some v→hi=some x→Qe M ρ v x)
  (h:(Qbv tab H t x lo hi).holds H K):Qv P (Instr.sliceAt t v vl vh none) M ρ H w K:=Qv.seen (Zpq htab hm hx.Zi hsl hrl hsh hrh (Qzc h))
def Qi8(tab:Qo)(t:Nat)(x:SV)(lo hi:Option SV)(mx:SV):Qn:=
 match x with
 |.pv (.tsl row xs)=>match tab.lookup t with
  |some {desc:=.slice e,..}=>match tab.lookup e with
   |none=>.fail
   | some i=>if row.length = i.size then match bound lo 0,bound hi 0,bound (some mx) 0,hi with
     |some l,some h,some m,some _=>.need (decide (0≤l)) <| .need (decide (l≤h)) <| .need (decide (h=m)) <| .need (decide (h≤xs.length)) (.ok (.pv (.csl row ((xs.take h.toNat).drop l.toNat))))
     |_,_,_,_=>.fail
    else .fail
  |_=>.fail
 |.sl s sz st len=>match tab.lookup t with
  |some {desc:=.slice e,..}=>match tab.lookup e with
   |none=>.fail
   | some i=>if sz = i.size then match bound lo 0,bound hi 0,bound (some mx) 0,hi with
     |some l,some h,some m,some _=>.need (decide (0≤l)) <| .need (decide (l≤h)) <| .need (decide (h≤m)) <| .need (decide (m≤len)) (.ok .any)
     |_,_,_,_=>.fail
    else .fail
  |_=>.fail
 |.pv (.lit (.slice none 0 0))=>match tab.lookup t with
  |some {desc:=.slice e,..}=>match tab.lookup e with
   |none=>.fail
   | some i=>match bound lo 0,bound hi 0,bound (some mx) 0,hi with
     |some l,some h,some m,some _=>.need (decide (l=0)) <| .need (decide (h=0)) <| .need (decide (m=0)) (.ok (.lit (.slice none 0 0)))
     |_,_,_,_=>.fail
  |_=>.fail
 |_=>.fail
theorem Zdv{P:Program}{w:World}{isSl:Bool}{len cap:Nat}{vl:Option Value}{l h m:Int}{k k':IntKind}(hl:(vl=none∧l=0)∨∃k,vl=some (.int k l))
  (h0:0≤l) (h1:l≤h) (h2:h≤m) (h3:m≤cap):(Instr.sliceBounds isSl len cap vl (some (.int k h)) (some (.int k' m))).run P w=.ok (l.toNat,h.toNat,m.toNat) w:=by
 have a1:(0:Int)≤h:=by omega
 have a2:(0:Int)≤m:=by omega
 have a3:h≤(m.toNat:Int):=by omega
 have a4:l≤(h.toNat:Int):=by omega
 have m1:max m 0=m:=Int.max_eq_left a2;have m2:max h 0=h:=Int.max_eq_left a1;rcases hl with⟨rfl,rfl⟩|⟨k,rfl⟩
 ·simp[Instr.sliceBounds,Instr.sliceBound,asIntOf,h2,h3,a1,a2,m1]
  try (intro hh;omega)
 ·simp[Instr.sliceBounds,Instr.sliceBound,asIntOf,h0,h1,h2,h3,a1,a2,m1,m2]
theorem Qdt{P:Program}{w:World}{t e:Nat}{i:TI}(hu:P.underlying t=some (.slice e))(he:Yf P e i){a:Option Addr}{len cap:Nat}{vl:Option Value}{l h m:Int}{k k':IntKind}
  (hl:(vl=none∧l=0)∨∃k,vl=some (.int k l)) (h0:0≤l) (h1:l≤h) (h2:h≤m) (h3:m≤cap):
  (Instr.sliceAt t (.slice a len cap) vl (some (.int k h)) (some (.int k' m))).run P w=.ok (.slice (if m.toNat=l.toNat then a else a.map (·.add (l.toNat*i.size))) (h.toNat-l.toNat) (m.toNat-l.toNat)) w:=by
 obtain⟨inf,hn,i1,_⟩:=he.inf;simp[Instr.sliceAt,Instr.slice,run_underlying hu,Zdv hl h0 h1 h2 h3,sizeOf,typeInfo,hn,i1]
theorem Q6.cut{M:Qc}{a:Option Addr}{n c sz:Nat}{rows:List (List PV)}(h:Q6 M (.slice a n c) (.rsl sz rows)){l h':Nat}(h1:l≤h')(h2:h'≤rows.length):
  n≤c∧n=rows.length∧Q6 M (.slice (if h'=l then a else a.map (·.add (l*sz))) (h'-l) (h'-l)) (.rsl sz ((rows.take h').drop l)):=by
 have hlen:((rows.take h').drop l).length=h'-l:=by simp;omega
 by_cases e:h'=l
 ·have hn:(rows.take h').drop l=[]:=List.eq_nil_of_length_eq_zero (by rw[hlen];omega);rw[if_pos e,hn,show h'-l=0 by omega];cases h with
  |rnil _=>exact⟨Nat.le_refl _,rfl,.rnil _⟩
  |remp a c _=>exact⟨Nat.zero_le _,rfl,.remp _ _ _⟩
  |rsl b off c _ n _ hn' hc _ _ _=>exact⟨hc,hn',.remp _ _ _⟩
 ·rw[if_neg e];cases h with
  |rnil _=>simp at h2;omega
  |remp a c _=>simp at h2;omega
  |rsl b off c _ n _ hn' hc g0 g1 g2=>
   refine⟨hc,hn',?_⟩;simp only[Option.map_some,Addr.add_mid];have get:∀(i:Nat) (r:List PV),((rows.take h').drop l)[i]? =some r→rows[l+i]? =some r∧i<h'-l:=fun i r hr=>by
    have:=(List.getElem?_eq_some_iff.1 hr).1;rw[List.getElem?_drop,List.getElem?_take]at hr;split at hr
    ·exact⟨hr,by omega⟩
    ·cases hr
   refine .rsl b _ _ _ _ _ (by rw[hlen]) (Nat.le_refl _) (fun i j hi hj=>?_) (fun i r j p v hr hp hv=>?_) (fun i r hr=>g2 _ r (get i r hr).1)
   ·rw[hlen]at hi;have:=g0 (l+i) j (by omega) hj;rwa[Nat.add_mul,←Nat.add_assoc]at this
   ·obtain⟨q1,q2⟩:=get i r hr;refine g1 (l+i) r j p v q1 hp ?_;rwa[Nat.add_mul,←Nat.add_assoc]
theorem Zgk{M:Qc}{ρ:Env}{x:SV}{v:Value}{d n:Int}(hr:Qe M ρ v x)(h:bound (some x) d=some n):∃k,v=.int k n:=by
 match x,h with
 |.pv (.lit (.int k m)),h=>simp[bound]at h;subst h;exact⟨k,hr.Q1⟩
theorem Qq6{P:Program}{tab:Qo}(htab:Qf P tab){M:Qc}{ρ:Env}{H:List Qa}{K:Qr}{t:Nat}{x mx:SV}{lo hi:Option SV}{v vm:Value}{vl vh:Option Value}
  (hx:Qe M ρ v x) (hsl:vl.isSome=lo.isSome) (hrl:∀v x,vl=some v→lo=some x→Qe M ρ v x) (hsh:vh.isSome=hi.isSome) (hrh:∀v x,vh=some v→hi=some x→Qe M ρ v x) (hrm:Qe M ρ vm mx)
  (h:(Qi8 tab t x lo hi mx).holds H K):∃v',(∀w:World,(Instr.sliceAt t v vl vh (some vm)).run P w=.ok v' w)∧∃y,Qe M ρ v' y∧K y H [] []:=by
 have hib:∀{l hh m:Int} {q:SV},bound lo 0=some l→bound hi 0=some hh→bound (some mx) 0=some m→hi=some q→((vl=none∧l=0)∨∃k,vl=some (.int k l))∧(∃k,vh=some (.int k hh))∧∃k,vm=.int k m:=by
  intro l hh m q e1 e2 e3 e4;refine⟨Yb hsl hrl e1,?_,Zgk hrm e3⟩;rcases Yb hsh hrh e2 with⟨h1,_⟩|h1
  ·rw[h1,e4]at hsh;cases hsh
  ·exact h1
 unfold Qi8 at h;split at h
 ·rename_i row xs;split at h
  ·rename_i e sz' by' zr rw' hte;have htt:=htab.get hte;split at h
   ·exact h.elim
   ·rename_i i hi';have ht:=htab.get hi';split at h
    ·rename_i hrl';split at h
     ·rename_i l hh m q e1 e3 e2;simp only[Qn.holds,decide_eq_true_eq]at h;obtain⟨h0,h1,h2,h3,h⟩:=h;obtain⟨b1,⟨k,rfl⟩,⟨k',rfl⟩⟩:=hib e1 e2 e3 rfl;subst h2;cases hx with
      |pv hp=>cases hp with
       |tsl _ _ hp=>
        obtain⟨a,n,c,rfl⟩:=hp.Qgb;have hll:(Qu row xs).length=xs.length:=by simp[Qu]
        obtain⟨c1,c2,c3⟩:=hp.cut (l:=l.toNat) (h':=hh.toNat) (by omega) (by rw[hll];omega);rw[hll]at c2;refine⟨_,fun w=>Qdt htt.und ht b1 h0 h1 (Int.le_refl _) (by omega),_,.pv ?_,h⟩;rw[hrl']at c3;refine .csl _ _ _ _ ?_;rw[hrl'];simpa[Qu,List.map_take,List.map_drop]using c3
     ·exact h.elim
    ·exact h.elim
  ·exact h.elim
 ·rename_i s sz st len;split at h
  ·rename_i e sz' by' zr rw' hte;have htt:=htab.get hte;split at h
   ·exact h.elim
   ·rename_i i hi';have ht:=htab.get hi';split at h
    ·split at h
     ·rename_i l hh m q e1 e3 e2;simp only[Qn.holds,decide_eq_true_eq]at h;obtain⟨h0,h1,h2,h3,h⟩:=h;obtain⟨b1,⟨k,rfl⟩,⟨k',rfl⟩⟩:=hib e1 e2 e3 rfl;cases hx with
      |sl _ _ _ _ c k0 p hp hk hc hn h6=>exact⟨_,fun w=>Qdt htt.und ht b1 h0 h1 h2 (by omega),_,.any _,h⟩
      |slz _ _ _ a=>exact⟨_,fun w=>Qdt htt.und ht b1 h0 h1 h2 (by omega),_,.any _,h⟩
     ·exact h.elim
    ·exact h.elim
  ·exact h.elim
 ·split at h
  ·rename_i e sz' by' zr rw' hte;have htt:=htab.get hte;split at h
   ·exact h.elim
   ·rename_i i hi';have ht:=htab.get hi';split at h
    ·rename_i l hh m q e1 e3 e2;simp only[Qn.holds,decide_eq_true_eq]at h;obtain⟨h0,h1,h2,h⟩:=h;obtain⟨b1,⟨k,rfl⟩,⟨k',rfl⟩⟩:=hib e1 e2 e3 rfl;have:=hx.Q1;subst this;subst h0;subst h1;subst h2;exact⟨_,fun w=>Qdt htt.und ht b1 (Int.le_refl _) (Int.le_refl _) (Int.le_refl _) (Int.le_refl _),_,.pv (.lit _),h⟩
    ·exact h.elim
  ·exact h.elim
 ·exact h.elim
def Qbq(tab:Qo)(H:List Qa)(t:Nat)(x:SV):Qn:=
 match x with
 |.pv (.tsl row xs)=>match Uz tab t with
  |some z=>.ok (.lit (.int .i64 xs.length))
  |none=>.fail
 |.pv (.tptr ..)=>.fail
 |x=>Ul tab H t x
theorem Qyg{tab:Qo}{H:List Qa}{K:Qr}{t:Nat}{x:SV}(h:(Qbq tab H t x).holds H K):(Ul tab H t x.Zi).holds H (Seen K):=by
 unfold Qbq at h;split at h
 ·rename_i row xs;split at h
  ·rename_i z ho;unfold Uz at ho;split at ho
   ·rename_i e a b c d hte;have hlen:(Qu row xs).length=xs.length:=by simp[Qu]
    simp only[Ul,SV.Zi,hte,hlen];exact Seen.of h
   ·cases ho
  ·exact h.elim
 ·exact h.elim
 ·rename_i h1 h2;have:x.Zi=x:=by
   unfold SV.Zi;split
   ·exact absurd rfl (h1 _ _)
   ·exact absurd rfl (h2 _ _ _ _)
   ·rfl
  rw[this];exact Qn.Wz (fun x H' t g hk=>Seen.of hk) h
theorem Zs8{P:Program}{tab:Qo}(htab:Qf P tab){M:Qc}{ρ:Env}{H:List Qa}{w:World}{K:Qr}(hm:Mem M ρ H w){t ty:Nat}{x:SV}{v:Value}(hx:Qe M ρ v x)
  (h:(Qbq tab H t x).holds H K):Qv P (Builtin.len_ #[t] ty #[v]) M ρ H w K:=Qv.seen (Zpv htab hm hx.Zi (Qyg h))
end Go.Sx
