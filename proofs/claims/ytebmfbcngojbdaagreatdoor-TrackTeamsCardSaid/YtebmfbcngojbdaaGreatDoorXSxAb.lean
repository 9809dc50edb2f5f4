/- Part Ab of the own logic: append within one own row, where there is room; slices of which room is known. Part Cp of the own logic: copy of data into an own row that is as long. And further parts. -/
import Derived.Test.YtebmfbcngojbdaaGreatDoorXSxH
import Derived.Test.YtebmfbcngojbdaaGreatDoorXSxKe
import Derived.Orders
import Derived.IntWalk
set_option linter.unusedVariables false
set_option linter.unusedSimpArgs false
set_option linter.unnecessarySimpa false
namespace Go.Sx
open Go
def SV.unslb:SV→SV
 |.slb s sz st n _=>.sl s sz st n
 |x=>x
theorem Qe.unslb{M:Qc}{ρ:Env}{v:Value}{x:SV}(h:Qe M ρ v x):Qe M ρ v x.unslb:=by
 cases h with
 |slb s sz st n m h hm=>exact h
 |any v=>exact .any v
 |pv h=>exact .pv h
 |agg cs l hl h=>exact .agg cs l hl h
 |tup cs l hl h=>exact .tup cs l hl h
 |ptr s sz i j k p hp hk=>exact .ptr s sz i j k p hp hk
 |sl s sz st n c k p hp hk hc hn h6=>exact .sl s sz st n c k p hp hk hc hn h6
 |slz s sz st a=>exact .slz s sz st a
 |mp s p hp=>exact .mp s p hp
 |yld s p hp=>exact .yld s p hp
 |fn f a b x y ha hb h k=>exact .fn f a b x y ha hb h k
def Kt{α:Type}(l:List α)(n st m:Nat):List α:=l.take n++(l.drop st).take m++l.drop (n+m)
def Qa.Qdi(o:Qa)(n st m:Nat):Option Qa:=match o with
 |.vec ty sz rows=>some (.vec ty sz (Kt rows n st m))
 |.tvec ty row l=>some (.tvec ty row (Kt l n st m))
 |.mix ty sz rows=>some (.mix ty sz (Kt rows n st m))
 |_=>none
theorem Qn7{α:Type}{l:List α}{n st m:Nat}(h1:n+m≤l.length)(h2:st+m≤l.length):(Kt l n st m).length=l.length:=by simp[Kt];omega
theorem Qmh{α:Type}{l:List α}{n st m i:Nat}(h1:n+m≤l.length)(h2:st+m≤l.length):(Kt l n st m)[i]? =if n≤i∧i<n+m then l[st+(i-n)]? else l[i]? :=by
 unfold Kt;by_cases a:i<n
 ·rw[if_neg (by omega),List.append_assoc,List.getElem?_append_left (by simp;omega),List.getElem?_take,if_pos a]
 ·by_cases b:i<n+m
  ·rw[if_pos ⟨by omega,b⟩,List.append_assoc,List.getElem?_append_right (by simp;omega),List.getElem?_append_left (by simp;omega)];simp only[List.length_take,List.getElem?_take,List.getElem?_drop];rw[show min n l.length=n by omega,if_pos (by omega)]
  ·rw[if_neg (by omega),List.getElem?_append_right (by simp;omega)];simp only[List.length_append,List.length_take,List.length_drop,List.getElem?_drop];congr 1;omega
theorem Zb6{o o':Qa}{sz n st m:Nat}(hz:o.Qx =some sz)(h1:n+m≤o.len)(h2:st+m≤o.len)(h:o.Qdi n st m=some o'):
  o'.Qx =some sz∧o'.len=o.len∧o'.ty=o.ty∧(∀ty row l r c x,o'≠.tlnk ty row l r c x)∧∀i,i<o.len→o'.row i=if n≤i∧i<n+m then o.row (st+(i-n))else o.row i:=by
 cases o with
 |vec ty sz' rows=>simp only[Qa.Qdi,Option.some.injEq]at h;subst h;refine⟨hz,Qn7 h1 h2,rfl,fun _ _ _ _ _ _ e=>(by cases e),fun i hi=>?_⟩;simp only[Qa.row,List.getD,Qmh (l:=rows) h1 h2];split<;>rfl
 |tvec ty row l=>simp only[Qa.Qdi,Option.some.injEq]at h;subst h;refine⟨hz,Qn7 h1 h2,rfl,fun _ _ _ _ _ _ e=>(by cases e),fun i hi=>?_⟩;simp only[Qa.row,List.getD,Qmh (l:=l) h1 h2];split<;>rfl
 |mix ty sz' rows=>simp only[Qa.Qdi,Option.some.injEq]at h;subst h;refine⟨hz,Qn7 h1 h2,rfl,fun _ _ _ _ _ _ e=>(by cases e),fun i hi=>?_⟩;simp only[Qa.row,List.getD,Qmh (l:=rows) h1 h2];split<;>rfl
 |_=>cases h
def Qi2(tab:Qo)(H:List Qa)(t t':Nat)(a x:SV):Qn:=match a,x.unslb with
 |.slb d sz st n m,.sl d2 sz2 st2 n2=>match tab.lookup t with
  |some {desc:=.slice e,..}=>match tab.lookup e with
   |none=>.fail
   |some i=>match Nat.beq t' t&&(Nat.blt 0 i.size&&(Nat.beq sz i.size&&(Nat.beq sz2 i.size&&(Nat.beq st 0&&Nat.beq d2 d))))with
    |false=>.fail
    | true=>.split (decide (n2 = 0)) (.ok (.slb d sz 0 n m)) <| match H[d]? with
      |none=>.fail
      |some o=>match o.Qdi n st2 n2 with
       |none=>.fail
       | some o'=>.need (decide (o.Qx = some i.size)) <| .need (decide (o.ty = e)) <| .need (decide (n + n2 ≤ m)) <| .need (decide (n + n2 ≤ o.len)) <| .need (decide (st2 + n2 ≤ o.len)) <|
         .eff (.slb d sz 0 (n+n2) m) (H.set d o') [d] []
  |_=>.fail
 |_,_=>.fail
theorem Zn8{P:Program}{tab:Qo}(htab:Qf P tab){M:Qc}{ρ:Env}{H:List Qa}{w:World}{K:Qr}(hm:Mem M ρ H w){t t' ty:Nat}{a x:SV}{v u:Value}(ha:Qe M ρ v a)(hx:Qe M ρ u x)
  (h:(Qi2 tab H t t' a x).holds H K):Qv P (Builtin.append_ #[t,t'] ty #[v,u]) M ρ H w K:=by
 have hx:=hx.unslb;unfold Qi2 at h;split at h
 ·rename_i d sz st n m d2 sz2 st2 n2 ex;rw[ex]at hx;split at h
  ·rename_i e _ _ _ _ hte;have htt:=htab.get hte;split at h
   ·exact h.elim
   ·rename_i i hi;have ht:=htab.get hi;split at h
    ·exact h.elim
    ·rename_i hc;simp only[Bool.and_eq_true]at hc;have e1:=Nat.eq_of_beq_eq_true hc.1;have e2:=(by have:=hc.2.1;rw[Nat.blt_eq]at this;exact this:0<i.size);have e3:=Nat.eq_of_beq_eq_true hc.2.2.1;have e4:=Nat.eq_of_beq_eq_true hc.2.2.2.1;have e5:=Nat.eq_of_beq_eq_true hc.2.2.2.2.1;have e6:=Nat.eq_of_beq_eq_true hc.2.2.2.2.2;subst e1;subst e3;subst e4;subst e5;subst e6;cases ha with
     |slb _ _ _ _ _ ha hmc=>
     obtain⟨a9,n9,c9,e9,hmc⟩:=hmc;by_cases hz0:n2=0
     ·
      replace h:=h.1 (decide_eq_true hz0);subst hz0;obtain⟨ad,c',rfl⟩:∃ad c',u=.slice ad 0 c':=by
       cases hx with
       |slz=>exact⟨_,_,rfl⟩
       |sl _ _ _ _ c k p hp hk hcc hn h6=>exact⟨_,_,rfl⟩
      cases ha with
      |slz _ _ _ a'=>injection e9 with _ _ e9;subst e9;exact⟨_,_,Qhk htt.und ht (Nat.le_refl _),_,_,[],[],M,ρ,h,.slb _ _ _ _ _ (.slz _ _ _ _) ⟨_,_,_,rfl,hmc⟩,hm,Fr.refl ..⟩
      |sl _ _ _ _ c k p hp hk hcc hn h6=>injection e9 with _ _ e9;subst e9;exact⟨_,_,Qhk htt.und ht hn,_,_,[],[],M,ρ,h,.slb _ _ _ _ _ (.sl _ _ _ _ c k p hp hk hcc hn h6) ⟨_,_,_,rfl,hmc⟩,hm,Fr.refl ..⟩
     ·replace h:=h.2 (decide_eq_false hz0);obtain⟨k0,rfl⟩:∃k,n2=k+1:=⟨n2-1,by omega⟩;split at h
      ·exact h.elim
      ·rename_i o ho;split at h
       ·exact h.elim
       ·rename_i o' hmv;simp only[Qn.holds,decide_eq_true_eq]at h;obtain⟨hz,hty,hroom,hn1,hn2,h⟩:=h;obtain⟨f1,f2,f3,f4,f5⟩:=Zb6 hz hn1 hn2 hmv;obtain⟨inf,hinf,i1,i2,i3⟩:=ht.inf;have hown:=hm.own d2 o ho;cases ha with
        |slz=>injection e9 with _ _ e9;subst e9;omega
        |sl _ _ _ _ c k p hp hk hcc hn h6=>
         injection e9 with _ _ e9;subst e9;have hk0:k=0:=by simpa using hk
         subst hk0;cases hx with
         |sl _ _ _ _ c2 k2 p2 hp2 hk2 hcc2 hnn2 h62=>
          rw[hp]at hp2;cases hp2;obtain⟨cs,ty0,a1,a2,a3,a4,a5⟩:=(hown.rowOf hz hp).ex;obtain⟨cs2,b1⟩:=hown.heap hz hp;rw[hty]at b1;rw[a1]at b1;cases b1;have hfit2:(st2+(k0+1))*i.size≤cs.size:=Nat.le_trans (Nat.mul_le_mul_right _ hn2) (Nat.le_trans a3 a2);have hfit1:(n+(k0+1))*i.size≤cs.size:=Nat.le_trans (Nat.mul_le_mul_right _ hn1) (Nat.le_trans a3 a2);rw[Nat.add_mul]at hfit1 hfit2;generalize hnews:(cs.toList.drop (st2*i.size)).take ((k0+1)*i.size)=news;have hnl:news.length=(k0+1)*i.size:=by rw[←hnews];simp;omega
          have hng:∀j,j<(k0+1)*i.size→news[j]? =cs[st2*i.size+j]? :=fun j hj=>by rw[←hnews,List.getElem?_take,if_pos hj,List.getElem?_drop,Array.getElem?_toList]
          have hcell:∀(j:Nat) (y:Value),news[j]? =some y→w.cell? ((⟨p.block,k2,none⟩:Addr).add j)=some y:=fun j y hy=>by
           have hj:j<(k0+1)*i.size:=by rw[←hnl];exact(List.getElem?_eq_some_iff.1 hy).1
           rw[hng j hj]at hy;rw[Addr.add_mid,hk2];simp[World.cell?,a1,hy]
          have hone:∀y∈news,y.oneCell'=true:=fun y hy=>by
           obtain⟨j,hj,ej⟩:=List.mem_iff_getElem.1 hy;have hj':j<(k0+1)*i.size:=by omega
           have hjd:j/i.size<k0+1:=by rw[Nat.div_lt_iff_lt_mul e2];exact hj'
           obtain⟨z,z1,z2⟩:=a4 (st2+j/i.size) (j%i.size) (by omega) (Nat.mod_lt _ e2);have hzz:=hng j hj';rw[List.getElem?_eq_getElem hj,ej]at hzz;rw[Nat.add_mul,Nat.add_assoc,Nat.div_add_mod']at z1;rw[z1]at hzz;cases hzz;exact z2
          have hrun:=run_append_room (P:=P) w t' ty e inf htt.und hinf p.block n c cs (by rw[hty]at*;exact a1) ⟨p.block,k2,none⟩ (k0+1) c2 news (by rw[i1];exact hnl) hcell hone (by omega) (by rw[hnl,i1];omega);rw[i1]at hrun;generalize hcs':(cs.toList.take (n*i.size)++news++cs.toList.drop (n*i.size+news.length)).toArray=cs' at hrun;have hget:∀q:Nat,cs'[q]? =if q<n*i.size then cs[q]? else if q<n*i.size+news.length then news[q-n*i.size]? else cs[q]? :=fun q=>by rw[←hcs',List.getElem?_toArray,Wl _ _ _ _ (by rw[hnl];simp;omega)];simp only[Array.getElem?_toList]
          have hsize:cs'.size=cs.size:=by rw[←hcs'];simp[hnl];omega
          have hheap':(w.setRow p.block cs').heap[p.block]? =some (.cells cs' e (0,0)):=setRow_heap w p.block cs cs' e (0,0) (by rw[hty]at*;exact a1);have hat:∀r j,r<o.len→j<i.size→cs'[r*i.size+j]? =if n≤r∧r<n+(k0+1)then cs[(st2+(r-n))*i.size+j]? else cs[r*i.size+j]? :=fun r j hr hj=>by
           rw[hget,hnl];by_cases g1:r<n
           ·rw[if_pos (Xv hj g1),if_neg (by omega)]
           ·have g3:¬r*i.size+j<n*i.size:=by have:=Nat.mul_le_mul_right i.size (show n≤r by omega);omega
            rw[if_neg g3];by_cases g2:r<n+(k0+1)
            ·have g4:=Xv hj g2;rw[Nat.add_mul]at g4;have g5:r*i.size=n*i.size+(r-n)*i.size:=by rw[←Nat.add_mul];congr 1;omega
             rw[if_pos g4,if_pos ⟨by omega,g2⟩,hng _ (by omega)];congr 1;rw[Nat.add_mul];omega
            ·have g4:¬r*i.size+j<n*i.size+(k0+1)*i.size:=by have:=Nat.mul_le_mul_right i.size (show n+(k0+1)≤r by omega);rw[Nat.add_mul]at this;omega
             rw[if_neg g4,if_neg (by omega)]
          have hnew:Qy M ρ (w.setRow p.block cs') d2 o':=by
           refine Vz.Qa8 f1 hp (fun ty' sz' rows eq=>?_) (fun ty' sz' rows eq=>?_) (fun ty' row l2 eq=>?_) (fun ty' row l2 r c x eq=>absurd eq (f4 _ _ _ _ _ _)) hheap' (by rw[hsize];exact a2) (by rw[f2];exact a3) (fun r j hr hj=>?_) (fun r j y hr hy=>?_)
           ·rw[eq]at f3;exact f3.trans hty
           ·rw[eq]at f3;exact f3.trans hty
           ·rw[eq]at f3;exact f3.trans hty
           ·rw[f2]at hr;rw[hat r j hr hj];split
            ·exact a4 _ j (by omega) hj
            ·exact a4 _ j hr hj
           ·rw[f2]at hr;rw[f5 r hr]at hy;split at hy
            ·rename_i g;obtain⟨q1,q2⟩:=a5 (st2+(r-n)) j y (by omega) hy;refine⟨q1,fun z hz=>q2 z ?_⟩;rw[hat r j hr q1,if_pos g]at hz;exact hz
            ·rename_i g;obtain⟨q1,q2⟩:=a5 r j y hr hy;refine⟨q1,fun z hz=>q2 z ?_⟩;rw[hat r j hr q1,if_neg g]at hz;exact hz
          obtain⟨g1,g2⟩:=hm.put (so:=o') ho (U9 hz) hp (fun b hb=>K5 hb) (setRow_size ..) (U9 f1) hnew;exact⟨_,_,hrun,_,_,[d2],[],M,ρ,h,.slb _ _ _ _ _ (.sl _ _ 0 _ c 0 p hp (by simp) hcc (by omega) h6) ⟨_,_,_,rfl,hmc⟩,g1,g2⟩
  ·exact h.elim
 ·exact h.elim
def Qg3(tab:Qo)(H:List Qa)(t t':Nat)(a x:SV):Qn:=match a with
 |.slb _ _ _ _ _=>Qi2 tab H t t' a x
 |_=>Qj8 tab H t t' a x
theorem Zoq{P:Program}{tab:Qo}(htab:Qf P tab){M:Qc}{ρ:Env}{H:List Qa}{w:World}{K:Qr}(hm:Mem M ρ H w){t t' ty:Nat}{a x:SV}{v u:Value}(ha:Qe M ρ v a)(hx:Qe M ρ u x)
  (h:(Qg3 tab H t t' a x).holds H K):Qv P (Builtin.append_ #[t,t'] ty #[v,u]) M ρ H w K:=by
 unfold Qg3 at h;split at h
 ·exact Zn8 htab hm ha hx h
 ·exact Zda htab hm ha hx h
def Qjs(tab:Qo)(H:List Qa)(t t':Nat)(a x:SV):Qn:=
 match tab.lookup t with
 |some {desc:=.slice e,..}=>match tab.lookup e with
  |none=>.fail
  |some i=>match Nat.beq t' t&&Nat.beq i.size 1 with
   |false=>.fail
   |true=>match a with
    |.sl d sz 0 n=>match H[d]? with
     |some (.tvec ty row l0)=>match x with
      |.pv (.tsl row' xs)=>match Nat.beq sz 1&&Nat.beq row.length 1 with
       |false=>.fail
       |true=>match X7 row' row xs with
        |none=>.fail
        |some ys=>.need (decide (n=l0.length)) <| .need (decide (ys.length=n)) <| .eff (.pv (.lit (.int .i64 n))) (H.set d (.tvec ty row ys)) [d] []
      |_=>.fail
     |_=>.fail
    |_=>.fail
 |_=>.fail
theorem Zc7{P:Program}{w:World}{t ty e:Nat}{i:TI}(hu:P.underlying t=some (.slice e))(he:Yf P e i){a b:Option Addr}{c c':Nat}:
  (Builtin.copy_ #[t,t] ty #[.slice a 0 c,.slice b 0 c']).run P w=.ok (.int .i64 0) w:=by
 obtain⟨inf,hi,i1,_⟩:=he.inf;cases a<;>cases b<;>simp[Builtin.copy_,run_underlying hu,sizeOf,typeInfo,hi,Builtin.lenOf,Builtin.firstCells,loadCells,loadCellsFrom,storeCells,goInt]
theorem Zhd{P:Program}{tab:Qo}(htab:Qf P tab){M:Qc}{ρ:Env}{H:List Qa}{w:World}{K:Qr}(hm:Mem M ρ H w){t t' ty0:Nat}{a x:SV}{v u:Value}(ha:Qe M ρ v a)(hx:Qe M ρ u x)
  (h:(Qjs tab H t t' a x).holds H K):Qv P (Builtin.copy_ #[t,t'] ty0 #[v,u]) M ρ H w K:=by
 unfold Qjs at h;split at h
 ·rename_i e _ _ _ _ hT;have htt:=htab.get hT;split at h
  ·exact h.elim
  ·rename_i i hi;have he:=htab.get hi;split at h
   ·exact h.elim
   ·rename_i hc;rw[Bool.and_eq_true]at hc;have et:=Nat.eq_of_beq_eq_true hc.1;have ei:=Nat.eq_of_beq_eq_true hc.2;subst et;split at h
    ·rename_i d sz n;split at h
     ·rename_i ty row l0 ho;split at h
      ·rename_i row' xs;split at h
       ·exact h.elim
       ·rename_i hc2;rw[Bool.and_eq_true]at hc2;have es:=Nat.eq_of_beq_eq_true hc2.1;have er:=Nat.eq_of_beq_eq_true hc2.2;split at h
        ·exact h.elim
        ·rename_i ys hys;obtain⟨e3,e4⟩:=Wk hys;subst e3;have e4:ys=xs:=e4;subst e4;simp only[Qn.holds,decide_eq_true_eq]at h;obtain⟨hn,hl,hk⟩:=h;have hu:P.underlying t'=some (.slice e):=htt.und;have hx':Qe M ρ u (.pv (.rsl row'.length (Qu row' ys))):=by
          cases hx with
          |pv hp=>cases hp with
           |tsl _ _ hp=>exact .pv hp
         have hsrc:=Qmj (H:=H) (sz:=row'.length) hm hx' (s:=.pure (Qu row' ys)) (by simp[Jn]);have hlen:(Qu row' ys).length=ys.length:=by simp[Qu]
         obtain⟨a0,c0,news,hv,hnl,hcell,hone,hrep⟩:=hsrc.news (show 0<row'.length by omega);have hsl:Src.len (.pure (Qu row' ys))=ys.length:=hlen;rw[hsl]at hv hnl hcell hrep;have hnl:news.length=ys.length:=by rw[hnl,er,Nat.mul_one]
         have hint:∀m:Nat,m=n→Qe M ρ (.int .i64 (m:Int)) (.pv (.lit (.int .i64 (n:Int)))):=fun m e=>by rw[e];exact .pv (.lit _)
         have hzero:ys.length=0→∀(b:Option Addr) (c:Nat),v=.slice b 0 c→Qv P (Builtin.copy_ #[t',t'] ty0 #[v,u]) M ρ H w K:=fun hz b c hb=>by
          have hn0:n=0:=by omega
          have hys0:ys=[]:=List.eq_nil_of_length_eq_zero hz;have hl0:l0=[]:=List.eq_nil_of_length_eq_zero (by omega);have hset:H.set d (.tvec ty row' ys)=H:=by
           rw[hys0,←hl0];refine List.ext_getElem? fun q=>?_;rw[List.getElem?_set];split
           ·rename_i e;subst e;rw[ho];simp[(List.getElem?_eq_some_iff.1 ho).1]
           ·rfl
          rw[hset]at hk;rw[hb,hv,hz];exact⟨_,w,Zc7 hu he,_,H,[d],[],M,ρ,hk,hint 0 hn0.symm,hm,Fr.refl ..⟩
         cases ha with
         |slz s sz st a=>exact hzero hl a 0 rfl
         |sl s sz st n c k p hp hkk hcc hnn h6=>
          have hk0:k=0:=by rw[hkk,Nat.zero_mul]
          subst hk0;rcases Nat.eq_zero_or_pos ys.length with hz|hpos
          ·exact hzero hz _ c (by rw[←hl,hz])
          ·obtain⟨b,o,ha0,hcell⟩:=hcell.resolve_left (by omega);have hown:=hm.own d _ ho;obtain⟨cs0,ty1,a1,a2,a3,a4,a5⟩:=(hown.rowOf (sz:=row'.length) rfl hp).ex;obtain⟨cs1,b1⟩:=hown.heap (sz:=row'.length) rfl hp;rw[a1]at b1;have ety:ty1=ty:=by simp[Qa.ty]at b1;exact b1.2
           subst ety;have a3:l0.length*row'.length≤p.cap:=a3;rw[er,Nat.mul_one]at a3;obtain⟨inf,hinf,i1,_⟩:=he.inf;have hrun:=run_copy_row (P:=P) w t' t' ty0 e p.block 0 n c ⟨b,o,none⟩ ys.length c0 cs0 ty1 news hu (by rw[hinf];simp[i1,ei]) a1 (by rw[hnl,hl];exact(Nat.min_self n).symm) (fun j z hj=>hcell j z hj) (by rw[hnl];omega) hone;generalize hcs':(cs0.toList.take 0++news++cs0.toList.drop (0+news.length)).toArray=cs' at hrun;have hget:∀m:Nat,cs'[m]? =if m<ys.length then news[m]? else cs0[m]? :=fun m=>by rw[←hcs',List.getElem?_toArray,Wl _ _ _ _ (by rw[hnl];simp;omega),hnl,if_neg (by omega)];simp only[Nat.zero_add,Nat.sub_zero,Array.getElem?_toList]
           have hsize:cs'.size=cs0.size:=by rw[←hcs'];simp[hnl];omega
           have hheap:(w.setRow p.block cs').heap[p.block]? =some (.cells cs' ty1 (0,0)):=setRow_heap w p.block cs0 cs' ty1 (0,0) a1;have hnew:Qy M ρ (w.setRow p.block cs') d (.tvec ty1 row' ys):=by
            refine Vz.Qa8 (sz:=row'.length) rfl hp (fun ty' sz' rows e=>by cases e) (fun ty' sz' rows e=>by cases e) (fun ty' row l2 e=>by cases e;rfl) (fun ty' row l2 r c x e=>by cases e) hheap (by rw[hsize];exact a2) (show ys.length*row'.length≤p.cap by rw[er,Nat.mul_one];omega) (fun m q hmr hq=>?_) (fun m q y hmr hy=>?_)
            ·have hmr:m<ys.length:=hmr;have hq0:q=0:=by omega
             subst hq0;rw[er,Nat.mul_one,Nat.add_zero,hget,if_pos hmr];have hlt:m<news.length:=by omega
             exact⟨news[m],by simp[hlt],hone _ (List.getElem_mem hlt)⟩
            ·have hmr:m<ys.length:=hmr;have e1:((Src.pure (Qu row' ys)).rows.getD m [])=(Qa.tvec ty1 row' ys).row m:=by
              have hm2:m<(Qu row' ys).length:=by rw[hlen];exact hmr
              have e:=U0 (row:=row') hmr;simp only[Src.rows,Qa.row,List.getD,List.getElem?_map,List.getElem?_eq_getElem hm2,Option.map_some,Option.getD_some]at e⊢;rw[e]
             obtain⟨g1,g2⟩:=hrep m q y hmr (by rw[e1];exact hy);refine⟨g1,fun z hz=>g2 z ?_⟩;have hq0:q=0:=by omega
             subst hq0;rw[er,Nat.mul_one,Nat.add_zero]at hz⊢;rw[hget,if_pos hmr]at hz;exact hz
           obtain⟨g1,g2⟩:=hm.put (so:=.tvec ty1 row' ys) ho rfl hp (fun b hb=>K5 hb) (setRow_size ..) rfl hnew;refine⟨_,_,?_,_,_,[d],[],M,ρ,hk,hint news.length (by omega),g1,g2⟩;rw[hv,ha0];exact hrun
      ·exact h.elim
     ·exact h.elim
    ·exact h.elim
 ·exact h.elim
def ownRow(H:List Qa)(a:SV):List Ty:=match a with
 |.sl d _ _ _=>match H[d]? with
  |some (.tvec _ row _)=>row
  |_=>[]
 |_=>[]
def TI.Qz4(i:TI)(row:List Ty):TI:={i with row:=some row}
def Qjm(tab:Qo)(H:List Qa)(t:Nat)(a:SV):Qn:=
 match tab.lookup t with
 |some {desc:=.slice e,..}=>match tab.lookup e with
  |none=>.fail
  |some i=>match Kw (i.Qz4 (ownRow H a))with
   |none=>.fail
   |some q=>match a with
    |.sl d sz st n=>match H[d]? with
     |some (.tvec ty row l)=>match Nat.beq sz i.size&&Nat.beq row.length i.size with
      |false=>.fail
      |true=>match X7 q.1 row [q.2]with
       |some [y]=>.need (decide (st+n≤l.length)) <| .eff (.tup []) (H.set d (.tvec ty row (l.take st++List.replicate n y++l.drop (st+n)))) [d] []
       |_=>.fail
     |_=>.fail
    |_=>.fail
 |_=>.fail
theorem Zp9{P:Program}{w:World}{t ty e:Nat}(hu:P.underlying t=some (.slice e)){a:Option Addr}{c:Nat}:
  (Builtin.clear_ #[t] ty #[.slice a 0 c]).run P w=.ok (.tuple #[]) w:=by
 cases a<;>simp[Builtin.clear_,run_underlying hu]
theorem Zat{P:Program}{w:World}{t ty e:Nat}{i:TI}(hu:P.underlying t=some (.slice e))(he:Yf P e i){g o n c:Nat}(hn:0<n){cur:Array Value}{ty1:TypeId}(hg:w.heap[g]? =some (.cells cur ty1 (0,0)))
  (hl:o+n*i.size≤cur.size) (h1:∀x∈(Builtin.zeroCells i.zero.cells n).toList,x.oneCell'=true):
  (Builtin.clear_ #[t] ty #[.slice (some ⟨g,o,none⟩) n c]).run P w=.ok (.tuple #[]) (w.setRow g (cur.toList.take o++(Builtin.zeroCells i.zero.cells n).toList++cur.toList.drop (o+(Builtin.zeroCells i.zero.cells n).toList.length)).toArray):=by
 obtain⟨inf,hi,i1,i2,i3⟩:=he.inf;have hlz:(Builtin.zeroCells i.zero.cells n).toList.length=n*i.size:=by rw[Array.length_toList,size_zeroCells,he.zsz]
 have hst:=run_storeCells_at P g o ty1 (Builtin.zeroCells i.zero.cells n).toList 0 cur w hg (by rw[hlz];simpa using hl) h1;simp only[Nat.add_zero]at hst;cases n with
 |zero=>omega
 |succ n=>simp[Builtin.clear_,run_underlying hu,zeroValue,typeInfo,hi,i3,hst]
theorem Zsm{P:Program}{tab:Qo}(htab:Qf P tab){M:Qc}{ρ:Env}{H:List Qa}{w:World}{K:Qr}(hm:Mem M ρ H w){t ty0:Nat}{a:SV}{v:Value}(ha:Qe M ρ v a)
  (h:(Qjm tab H t a).holds H K):Qv P (Builtin.clear_ #[t] ty0 #[v]) M ρ H w K:=by
 unfold Qjm at h;split at h
 ·rename_i e _ _ _ _ hT;have htt:=htab.get hT;have hu:P.underlying t=some (.slice e):=htt.und;split at h
  ·exact h.elim
  ·rename_i i hi;have he:=htab.get hi;split at h
   ·exact h.elim
   ·rename_i q hz;split at h
    ·rename_i d sz st n;split at h
     ·rename_i ty row l ho;split at h
      ·exact h.elim
      ·rename_i hc;rw[Bool.and_eq_true]at hc;have es:=Nat.eq_of_beq_eq_true hc.1;have er:=Nat.eq_of_beq_eq_true hc.2;subst es;split at h
       ·rename_i y hy;obtain⟨zr,z⟩:=q;obtain⟨e3,e4⟩:=Wk hy;subst e3;have e4:[y]=[z]:=e4;have e4:y=z:=List.head_eq_of_cons_eq e4;have hz:Kw (i.Qz4 (ownRow H (.sl d i.size st n)))=some ⟨zr,y⟩:=by rw[e4];exact hz
        simp only[Qn.holds,decide_eq_true_eq]at h;obtain⟨hn,hk⟩:=h;have htup:Qe M ρ (.tuple #[]) (.tup []):=.tup _ _ rfl fun i v x hv=>by simp at hv
        have hzero:n=0→∀(b:Option Addr) (c:Nat),v=.slice b 0 c→Qv P (Builtin.clear_ #[t] ty0 #[v]) M ρ H w K:=fun h0 b c hb=>by
         subst h0;have hset:H.set d (.tvec ty zr (l.take st++List.replicate 0 y++l.drop (st+0)))=H:=by
          simp only[List.replicate_zero,List.append_nil,Nat.add_zero,List.take_append_drop];refine List.ext_getElem? fun q=>?_;rw[List.getElem?_set];split
          ·rename_i e;subst e;rw[ho];simp[(List.getElem?_eq_some_iff.1 ho).1]
          ·rfl
         rw[hset]at hk;rw[hb];exact⟨_,w,Zp9 hu,_,H,[d],[],M,ρ,hk,htup,hm,Fr.refl ..⟩
        cases ha with
        |slz _ _ _ a=>exact hzero rfl a 0 rfl
        |sl _ _ _ _ c k p hp hkk hcc hnn h6=>
         rcases Nat.eq_zero_or_pos n with h0|hpos
         ·exact hzero h0 _ c (by rw[h0])
         ·subst hkk;have hown:=hm.own d _ ho;obtain⟨cs0,ty1,a1,a2,a3,a4,a5⟩:=(hown.rowOf (sz:=zr.length) rfl hp).ex;obtain⟨cs1,b1⟩:=hown.heap (sz:=zr.length) rfl hp;rw[a1]at b1;have ety:ty1=ty:=by simp[Qa.ty]at b1;exact b1.2
          subst ety;have a3:l.length*zr.length≤p.cap:=a3;rw[er]at a3 a4 a5;have hfit:st*i.size+n*i.size≤l.length*i.size:=by rw[←Nat.add_mul];exact Nat.mul_le_mul_right _ hn
          have hzc:Builtin.zeroCells i.zero.cells n=madeCells i.zero.cells (n*i.size):=by rw[←he.zsz];rfl
          have hzz:=Qee (n:=n) (M:=M) (ρ:=ρ) he.zsz he.zon;have hone:∀x∈(Builtin.zeroCells i.zero.cells n).toList,x.oneCell'=true:=fun x hx=>by obtain⟨m,hm'⟩:=List.getElem?_of_mem hx;exact hzz.one m x (by rw[←hzc,←Array.getElem?_toList];exact hm')
          have hrun:=Zat (P:=P) (ty:=ty0) (c:=c) hu he (o:=st*i.size) hpos a1 (by omega) hone;have hlz:(Builtin.zeroCells i.zero.cells n).toList.length=n*i.size:=by rw[Array.length_toList,size_zeroCells,he.zsz]
          generalize hvs:(Builtin.zeroCells i.zero.cells n).toList=vs at hrun hone hlz;have hvs':∀m:Nat,vs[m]? =(madeCells i.zero.cells (n*i.size))[m]? :=fun m=>by rw[←hvs,hzc,Array.getElem?_toList]
          generalize hcs':(cs0.toList.take (st*i.size)++vs++cs0.toList.drop (st*i.size+vs.length)).toArray=cs' at hrun;have hget:∀m:Nat,cs'[m]? =if m<st*i.size then cs0[m]? else if m<st*i.size+n*i.size then vs[m-st*i.size]? else cs0[m]? :=fun m=>by rw[←hcs',List.getElem?_toArray,Wl _ _ _ _ (by rw[hlz];simp;omega),hlz];simp only[Array.getElem?_toList]
          have hsize:cs'.size=cs0.size:=by rw[←hcs'];simp[hlz];omega
          have hheap:(w.setRow p.block cs').heap[p.block]? =some (.cells cs' ty1 (0,0)):=setRow_heap w p.block cs0 cs' ty1 (0,0) a1;have hll:(l.take st++List.replicate n y++l.drop (st+n)).length=l.length:=by simp;omega
          have hnew:Qy M ρ (w.setRow p.block cs') d (.tvec ty1 zr (l.take st++List.replicate n y++l.drop (st+n))):=by
           refine Vz.Qa8 (sz:=zr.length) rfl hp (fun ty' sz' rows e=>by cases e) (fun ty' sz' rows e=>by cases e) (fun ty' row l2 e=>by cases e;rfl) (fun ty' row l2 r c x e=>by cases e) hheap (by rw[hsize];exact a2) (show(l.take st++List.replicate n y++l.drop (st+n)).length*zr.length≤p.cap by rw[hll,er];exact a3) (fun m q hmr hq=>?_) (fun m q x hmr hx=>?_)
           ·rw[er]at hq⊢;have hmr:m<l.length:=by rw[←hll];exact hmr
            obtain⟨u,hu1,hu2⟩:=a4 m q hmr hq;rw[hget];split
            ·exact⟨u,hu1,hu2⟩
            ·split
             ·have hlt:m*i.size+q-st*i.size<vs.length:=by rw[hlz];omega
              exact⟨vs[m*i.size+q-st*i.size],by simp[hlt],hone _ (List.getElem_mem hlt)⟩
             ·exact⟨u,hu1,hu2⟩
           ·have hmr:m<l.length:=by rw[←hll];exact hmr
            have hsp:(l.take st++List.replicate n y++l.drop (st+n))[m]? =if m<st then l[m]? else if m<st+n then(List.replicate n y)[m-st]? else l[m]? :=by have:=Wl l (List.replicate n y) st m (by simpa using hn);simpa using this
            have old:(l.take st++List.replicate n y++l.drop (st+n))[m]? =l[m]? →(∀q,q<i.size→cs'[m*i.size+q]? =cs0[m*i.size+q]?)→q<zr.length∧∀v,cs'[m*zr.length+q]? =some v→Qe M ρ v x:=fun e1 e2=>by
             have hx0:((Qa.tvec ty1 zr l).row m)[q]? =some x:=by simp only[Qa.row,List.getD]at hx⊢;rw[e1]at hx;exact hx
             obtain⟨g1,g2⟩:=a5 m q x hmr hx0;refine⟨by rw[show zr.length=i.size from er];exact g1,fun v hv=>g2 v ?_⟩;rw[show zr.length=i.size from er,e2 q g1]at hv;exact hv
            by_cases h1:m<st
            ·refine old (by rw[hsp,if_pos h1]) fun q hq=>?_;have:=Xv hq h1;rw[hget,if_pos (by omega)]
            ·by_cases h2:m<st+n
             ·have e1:(l.take st++List.replicate n y++l.drop (st+n)).getD m (Els.Zx zr)=y:=by rw[List.getD,hsp,if_neg h1,if_pos h2,List.getElem?_replicate,if_pos (by omega)];rfl
              simp only[Qa.row,e1,List.getElem?_map,Option.map_eq_some_iff]at hx;obtain⟨u,hu1,rfl⟩:=hx;have hq:q<i.size:=by have:=(List.getElem?_eq_some_iff.1 hu1).1;rw[Xw]at this;rw[←show zr.length=i.size from er];exact this
              refine⟨by rw[show zr.length=i.size from er];exact hq,fun v hv=>?_⟩;rw[show zr.length=i.size from er,hget,if_neg (by have:=Nat.mul_le_mul_right i.size (Nat.le_of_not_lt h1);omega)]at hv;have hflat:(m-st)*i.size+q<n*i.size:=Xv hq (by omega);have hms:m*i.size=st*i.size+(m-st)*i.size:=by rw[←Nat.add_mul];congr 1;omega
              rw[if_pos (by omega),hvs',show m*i.size+q-st*i.size=(m-st)*i.size+q by omega]at hv;unfold Kw at hz;split at hz
              ·cases hz
              ·split at hz
               ·cases hz
               ·rename_i z0 hz0;split at hz
                ·rename_i x0 hx0;split at hz
                 ·cases hz;obtain⟨_,g2⟩:=Kk hx0;obtain⟨p0,hp0,himp⟩:=g2 q u hu1;have ez:i.zero.cells.toList.map SV.lit=z0.map SV.pv:=Kd hz0;have hl2:(i.zero.cells.toList.map SV.lit).length=i.size:=by simp[he.zsz]
                  have:=hzz.rep _ v (.pv p0) hv (by rw[Qfi (by rw[hl2];omega),hl2,Nat.mul_comm,Nat.mul_add_mod,Nat.mod_eq_of_lt hq,ez,List.getElem?_map,hp0];rfl);cases this with
                  |pv this=>exact .pv (himp _ _ this)
                 ·cases hz
                ·cases hz
             ·refine old (by rw[hsp,if_neg h1,if_neg h2]) fun q hq=>?_;have:=Nat.mul_le_mul_right i.size (show st+n≤m by omega);rw[Nat.add_mul]at this;rw[hget,if_neg (by omega),if_neg (by omega)]
          obtain⟨g1,g2⟩:=hm.put (so:=.tvec ty1 zr (l.take st++List.replicate n y++l.drop (st+n))) ho rfl hp (fun b hb=>K5 hb) (setRow_size ..) rfl hnew;exact⟨_,_,hrun,_,_,[d],[],M,ρ,hk,htup,g1,g2⟩
       ·exact h.elim
     ·exact h.elim
    ·exact h.elim
 ·exact h.elim
def asData(H:List Qa)(row:List Ty)(a:SV):List Qa:=match a with
 |.sl d _ _ _=>match H[d]? with
  |some (.vec ty sz rows)=>match Nat.beq sz row.length with
   |true=>match Xb (ofRow row) rows with
    |some l=>H.set d (.tvec ty row l)
    |none=>H
   |false=>H
  |_=>H
 |_=>H
theorem Qh6{M:Qc}{ρ:Env}{H:List Qa}{w:World}(hm:Mem M ρ H w)(row:List Ty)(a:SV):Mem M ρ (asData H row a) w∧Fr M ρ H w M ρ (asData H row a) w H.length [] []∧(asData H row a).length=H.length:=by
 have same:Mem M ρ H w∧Fr M ρ H w M ρ H w H.length [] []∧H.length=H.length:=⟨hm,Fr.refl ..,rfl⟩;unfold asData;split
 ·split
  ·rename_i ty sz rows ho;split
   ·rename_i e;have e1:=Nat.eq_of_beq_eq_true e;subst e1;split
    ·rename_i l hl;have hok:=Yt.of hl;exact⟨hm.described ho rfl (fun hh=>hh.Qde hok.1 hok.2),(Fr.refl M ρ H w H.length [] []).described ho rfl,by rw[List.length_set]⟩
    ·exact same
   ·exact same
  ·exact same
 ·exact same
def Qa4(tab:Qo)(t:Nat):List Ty:=match tab.lookup t with
 |some {desc:=.slice e,..}=>match tab.lookup e with
  |some i=>match i.row with
   |some row=>row
   |none=>[]
  |none=>[]
 |_=>[]
def Qyr(tab:Qo)(H:List Qa)(t:Nat)(a:SV):Qn:=(Qjm tab (asData H (Qa4 tab t) a) t a).J4 [] (asData H (Qa4 tab t) a)
theorem Zna{P:Program}{tab:Qo}(htab:Qf P tab){M:Qc}{ρ:Env}{H:List Qa}{w:World}{K:Qr}(hm:Mem M ρ H w){t ty0:Nat}{a:SV}{v:Value}(ha:Qe M ρ v a)
  (h:(Qyr tab H t a).holds H K):Qv P (Builtin.clear_ #[t] ty0 #[v]) M ρ H w K:=by
 obtain⟨m1,m2,m3⟩:=Qh6 hm (Qa4 tab t) a;obtain⟨v',w',h1,y,H',tch,fg,M',ρ',hk,h2,h3,h4⟩:=Zsm (ty0:=ty0) htab m1 ha (Qn.touch_holds h);rw[m3]at h4;exact⟨v',w',h1,y,H',[]++tch,fg,M',ρ',hk,h2,h3,m2.trans h4 (fun x h=>List.mem_append_left _ h) (fun x h=>List.mem_append_right _ h) (fun x h=>by cases h) (fun x h=>h)⟩
def Qqr(tab:Qo)(H:List Qa)(t t':Nat)(a x:SV):Qn:=(Qjs tab (asData H (Qa4 tab t) a) t t' a x).J4 [] (asData H (Qa4 tab t) a)
theorem Zpo{P:Program}{tab:Qo}(htab:Qf P tab){M:Qc}{ρ:Env}{H:List Qa}{w:World}{K:Qr}(hm:Mem M ρ H w){t t' ty0:Nat}{a x:SV}{v u:Value}(ha:Qe M ρ v a)(hx:Qe M ρ u x)
  (h:(Qqr tab H t t' a x).holds H K):Qv P (Builtin.copy_ #[t,t'] ty0 #[v,u]) M ρ H w K:=by
 obtain⟨m1,m2,m3⟩:=Qh6 hm (Qa4 tab t) a;obtain⟨v',w',h1,y,H',tch,fg,M',ρ',hk,h2,h3,h4⟩:=Zhd (ty0:=ty0) htab m1 ha hx (Qn.touch_holds h);rw[m3]at h4;exact⟨v',w',h1,y,H',[]++tch,fg,M',ρ',hk,h2,h3,m2.trans h4 (fun x h=>List.mem_append_left _ h) (fun x h=>List.mem_append_right _ h) (fun x h=>by cases h) (fun x h=>h)⟩
def Z6(P:Program)(S:Sem Next)(M:Qc)(ρ:Env)(H:List Qa)(w:World)(K:Qr):Prop:=
 ∃v w',(S.run P w=.ok (.value v) w'∨(S.run P w=.ok .skip w'∧v=undef))∧∃x H' tch fg M' ρ',K x H' tch fg∧Qe M' ρ' v x∧Mem M' ρ' H' w'∧Fr M ρ H w M' ρ' H' w' H.length tch fg
theorem Qv.toN{P:Program}{S:Sem Value}{M:Qc}{ρ:Env}{H:List Qa}{w:World}{K:Qr}(h:Qv P S M ρ H w K):Z6 P (do pure (.value (←S))) M ρ H w K:=by obtain⟨v,w',hr,rest⟩:=h;exact⟨v,w',.inl (by simp[hr]),rest⟩
theorem Ve.toN{P:Program}{S:Sem Unit}{M:Qc}{ρ:Env}{H:List Qa}{w:World}{K:Qr}(h:Ve P S M ρ H w K):Z6 P (do S;pure .skip) M ρ H w K:=by obtain⟨w',hr,x,H',t,g,M',ρ',hk,rfl,m,f⟩:=h;exact⟨undef,w',.inr ⟨by simp[hr],rfl⟩,.any,H',t,g,M',ρ',hk,.any _,m,f⟩
theorem Z6.same{P:Program}{S:Sem Next}{M:Qc}{ρ:Env}{H:List Qa}{w:World}{K:Qr}{v:Value}{x:SV}(hm:Mem M ρ H w)(hr:S.run P w=.ok (.value v) w)(hx:Qe M ρ v x)(hk:K x H [] []):Z6 P S M ρ H w K:=
 ⟨v,w,.inl hr,x,H,[],[],M,ρ,hk,hx,hm,Fr.refl ..⟩
def SV.Qga:SV→Value
 |.pv (.lit v)=>v
 |_=>undef
def SV.isLit:SV→Bool
 |.pv (.lit _)=>true
 |_=>false
theorem Qq1{M:Qc}{ρ:Env}{v:Value}{x:SV}(h:Qe M ρ v x)(hx:x.isLit=true):v=x.Qga:=by
 match x,hx with
 |.pv (.lit u),_=>exact h.Q1
def Qk3:Op→Bool
 |.select ..=>true
 |_=>false
def X3(P:Program)(ev:Operand→SV)(o:Oper):Qn:=
 if(!Qk3 o.op&&o.op.operands.all fun x=>(ev x).isLit)=true then match Zv P (execOp (fun x=>(ev x).Qga) o)with
  |some (.value v)=>.ok (.lit v)
  |_=>.fail
 else .fail
theorem W1{P:Program}{M:Qc}{ρ:Env}{H:List Qa}{w:World}{K:Qr}{ev:Operand→SV}{va:Operand→Value}(hm:Mem M ρ H w)(hev:∀x,Qe M ρ (va x) (ev x)){o:Oper}
  (h:(X3 P ev o).holds H K):Z6 P (execOp va o) M ρ H w K:=by
 unfold X3 at h;split at h
 ·rename_i hc;simp only[Bool.and_eq_true,Bool.not_eq_true']at hc;split at h
  ·rename_i v hv;have he:execOp va o=execOp (fun x=>(ev x).Qga) o:=by refine execOp_congr o (fun cs b hsel=>by rw[hsel]at hc;simp[Qk3]at hc) fun x hx=>?_;have:=Array.all_eq_true_iff_forall_mem.1 hc.2 x hx;exact Qq1 (hev x) this
   rw[he];exact Z6.same hm (Kn hv w) (.pv (.lit _)) h
  ·exact h.elim
 ·exact h.elim
def Qf0(n:Int):Bool:=decide (-9223372036854775808≤n)&&decide (n≤9223372036854775807)
theorem Qqq{n:Int}(h:Qf0 n=true):IntKind.i64.wrap n=n:=by simp only[Qf0,Bool.and_eq_true,decide_eq_true_eq]at h;exact IntWalk.i64_in _ (by omega)
def w64(n:Int):Int:=IntKind.i64.wrap n
theorem Zz{n:Int}(h0:-9223372036854775808≤n)(h1:n≤9223372036854775807):w64 n=n:=IntWalk.i64_in _ (by omega)
def sEq(P:Program)(tab:Qo)(neg:Bool)(t:Nat)(a b:SV):Qn:=match P.eqGuardType P.depth t with
 |true=>.fail
 |false=>match eqV P tab 8 t a b with
  |none=>.fail
  |some r=>match neg with
   |true=>.ok (.lit (.bool (!r)))
   |false=>.ok (.lit (.bool r))
def Qfk:Bool→BinOp
 |true=>.neq
 |false=>.eql
theorem Qv5{P:Program}{tab:Qo}(htab:Qf P tab){M:Qc}{ρ:Env}{neg:Bool}{t:Nat}{a b:SV}{va vb:Value}(ha:Qe M ρ va a)(hb:Qe M ρ vb b){H:List Qa}{K:Qr}
  (hca:a.cells?.isSome=true) (hcb:b.cells?.isSome=true) (h:(sEq P tab neg t a b).holds H K):
  ∃v:Value,K (.pv (.lit v)) H [] []∧∀(w:World) (x y:Operand),(do eqGuard (Qfk neg) t x y va vb;binOp (Qfk neg) t va vb:Sem Value).run P w=.ok v w:=by
 unfold sEq at h;split at h
 ·exact h.elim
 ·rename_i hg;split at h
  ·exact h.elim
  ·rename_i r hr;obtain⟨l,hl⟩:=Option.isSome_iff_exists.1 hca;obtain⟨m,hm⟩:=Option.isSome_iff_exists.1 hcb;have h:K (.pv (.lit (.bool (match neg with|true=>!r|false=>r)))) H [] []:=by cases neg<;>exact h
   refine⟨_,h,fun w x y=>?_⟩;have e:=Qe5 htab (M:=M) (ρ:=ρ) w 8 t a b va vb r hr ha hb Op.maxDepth (by decide);obtain⟨ca,rfl,_⟩:=Qat hl ha;obtain⟨cb,rfl,_⟩:=Qat hm hb;cases neg<;>simp[Qfk,eqGuard,hg,binOp,Op.equal,e]
def Qh4:BinOp→SV→SV→Option Bool
 |.eql,.agg _,_=>some false
 |.eql,_,.agg _=>some false
 |.eql,.pv (.lit (.agg _)),.pv (.lit (.agg _))=>some false
 |.neq,.agg _,_=>some true
 |.neq,_,.agg _=>some true
 |.neq,.pv (.lit (.agg _)),.pv (.lit (.agg _))=>some true
 |_,_,_=>none
theorem Qup{op:BinOp}{a b:SV}{neg:Bool}(h:Qh4 op a b=some neg):op=Qfk neg:=by unfold Qh4 at h;split at h<;>first|(cases h;rfl)|cases h
def Qlh(op:BinOp)(a b:SV):Option Bool:=match a,b with
 |.pv (.lit (.int k x)),.pv (.lit (.int k' y))=>match decide (k=k')with
  |false=>none
  |true=>match op with
   |.eql=>some (decide (x=y))
   |.neq=>some (!decide (x=y))
   |.lss=>some (decide (x<y))
   |.leq=>some (decide (x≤y))
   |.gtr=>some (decide (y<x))
   |.geq=>some (decide (y≤x))
   |_=>none
 |_,_=>none
def Qcr(P:Program)(tab:Qo)(ev:Operand→SV)(o:Oper)(op:BinOp)(t:Nat)(a b:SV):Qn:=
 match op,a,b with
 |.add,.pv (.lit (.int .i64 x)),.pv (.lit (.int .i64 y))=>.ok (.lit (.int .i64 (w64 (x+y))))
 |.sub,.pv (.lit (.int .i64 x)),.pv (.lit (.int .i64 y))=>.ok (.lit (.int .i64 (w64 (x-y))))
 |.mul,.pv (.lit (.int .i64 x)),.pv (.lit (.int .i64 y))=>.ok (.lit (.int .i64 (w64 (x*y))))
 |.quo,.pv (.lit (.int .i64 x)),.pv (.lit (.int .i64 y))=>.need (decide (y≠0)) (.ok (.lit (.int .i64 (w64 (x.tdiv y)))))
 |.rem,.pv (.lit (.int .i64 x)),.pv (.lit (.int .i64 y))=>.need (decide (y≠0)) (.ok (.lit (.int .i64 (x.tmod y))))
 |.shl,.pv (.lit (.int .i64 x)),.pv (.lit (.int .i64 y))=>.need (decide (0≤y)) (.ok (.lit (.int .i64 (w64 (x*2 ^ min y.toNat 64)))))
 |.shr,.pv (.lit (.int .i64 x)),.pv (.lit (.int .i64 y))=>.need (decide (0≤y)) (.ok (.lit (.int .i64 (x.fdiv (2 ^ min y.toNat 64)))))
 |.eql,.pv (.lit (.int .i64 x)),.pv (.lit (.int .i64 y))=>.ok (.lit (.bool (decide (x=y))))
 |.neq,.pv (.lit (.int .i64 x)),.pv (.lit (.int .i64 y))=>.ok (.lit (.bool (!decide (x=y))))
 |.lss,.pv (.lit (.int .i64 x)),.pv (.lit (.int .i64 y))=>.ok (.lit (.bool (decide (x<y))))
 |.leq,.pv (.lit (.int .i64 x)),.pv (.lit (.int .i64 y))=>.ok (.lit (.bool (decide (x≤y))))
 |.gtr,.pv (.lit (.int .i64 x)),.pv (.lit (.int .i64 y))=>.ok (.lit (.bool (decide (y<x))))
 |.geq,.pv (.lit (.int .i64 x)),.pv (.lit (.int .i64 y))=>.ok (.lit (.bool (decide (y≤x))))
 |.eql,.pv (.lit (.string x)),.pv (.lit (.string y))=>.ok (.lit (.bool (strEq x y)))
 |.neq,.pv (.lit (.string x)),.pv (.lit (.string y))=>.ok (.lit (.bool (!strEq x y)))
 |.add,.pv (.lit (.string x)),.pv (.lit (.string y))=>.need (decide (((x.size+y.size:Nat):Int)≤IntKind.i64.max)) (.ok (.lit (.string (x++y))))
 |op,a,b=>match Qh4 op a b with
  |some neg=>match a.cells?.isSome&&b.cells?.isSome with
   |true=>sEq P tab neg t a b
   |false=>.fail
  |none=>match Qlh op a b with
   |some r=>.ok (.lit (.bool r))
   |none=>X3 P ev o
theorem Xr(P:Program)(w:World)(op:BinOp)(t:TypeId)(x y:Operand)(k k':IntKind)(a b:Int):(eqGuard op t x y (.int k a) (.int k' b)).run P w=.ok () w:=by unfold eqGuard;cases op<;>simp
theorem Qaw(P:Program)(w:World)(op:BinOp)(t:TypeId)(x y:Operand)(a b:ByteArray):(eqGuard op t x y (.string a) (.string b)).run P w=.ok () w:=by unfold eqGuard;cases op<;>simp
theorem Qrt{P:Program}{M:Qc}{ρ:Env}{op:BinOp}{t:Nat}{a b:SV}{va vb:Value}{r:Bool}(ha:Qe M ρ va a)(hb:Qe M ρ vb b)(h:Qlh op a b=some r)(w:World)(x y:Operand):
  (do eqGuard op t x y va vb;binOp op t va vb:Sem Value).run P w=.ok (.bool r) w:=by
 unfold Qlh at h;split at h
 ·split at h
  ·cases h
  ·rename_i hk;cases of_decide_eq_true hk;have ea:=ha.Q1;have eb:=hb.Q1;subst ea;subst eb;split at h<;>first
    | (cases h
       simp[Sem.run_bind,Xr,binOp,Op.intCmp,bne];done)
    | (cases h
       simp only[Sem.run_bind,Xr,Result.andThen_ok,binOp,Op.intCmp,ne_eq,not_true_eq_false,if_false];rfl)
    |cases h
 ·cases h
theorem Zkz{P:Program}{tab:Qo}(htab:Qf P tab){M:Qc}{ρ:Env}{H:List Qa}{w:World}{K:Qr}{ev:Operand→SV}{va:Operand→Value}(hm:Mem M ρ H w)(hev:∀x,Qe M ρ (va x) (ev x)){o:Oper}
  {op:BinOp} {t t':TypeId} {x y:Operand} (ho:o.op=.binOp op t x y t') (h:(Qcr P tab ev o op t (ev x) (ev y)).holds H K):Z6 P (execOp va o) M ρ H w K:=by
 have hx:=hev x;have hy:=hev y;have exec:execOp va o=(do pure (.value (←(do eqGuard op t x y (va x) (va y);binOp op t (va x) (va y))))):=by simp[execOp,ho]
 unfold Qcr at h;split at h<;>first
  | (rename_i e1 e2
     rw[e1]at hx;rw[e2]at hy;have ex:=hx.Q1;have ey:=hy.Q1;rw[exec,ex,ey];simp only[Qn.holds]at h
     first
    | (refine Z6.same hm ?_ (.pv (.lit _)) h
       simp[Sem.run_bind,Xr,binOp,Op.intArith,w64];done)
    | (obtain ⟨hn,h⟩ := h
       first
      | (have hz := of_decide_eq_true hn
         refine Z6.same hm ?_ (.pv (.lit _)) h;simp[Sem.run_bind,Xr,binOp,Op.intDiv,hz,w64];done)
      | (have hz := Int.not_lt.2 (of_decide_eq_true hn)
         refine Z6.same hm ?_ (.pv (.lit _)) h;simp only[Sem.run_bind,Xr,Result.andThen_ok,binOp,Op.shift,if_neg hz,Sem.run_pure];rfl)
      | (have hz := Int.not_lt.2 (of_decide_eq_true hn)
         refine Z6.same hm ?_ (.pv (.lit _)) h;simp only[Sem.run_bind,Qaw,Result.andThen_ok,binOp,Op.stringOp,gt_iff_lt,if_neg hz,Sem.run_pure];done)
      | (obtain ⟨hn2,h⟩ := h
         have hz:=of_decide_eq_true hn;refine Z6.same hm ?_ (.pv (.lit _)) h;simp[Sem.run_bind,Xr,binOp,Op.intDiv,hz,Qqq hn2];done))
    | (refine Z6.same hm ?_ (.pv (.lit _)) h
       simp[Sem.run_bind,Xr,Qaw,binOp,Op.intCmp,Op.stringOp,bne];done)
    | (refine Z6.same hm ?_ (.pv (.lit _)) h
       simp only[Sem.run_bind,Xr,Qaw,Result.andThen_ok,binOp,Op.intCmp,Op.stringOp,Qrf];rfl))
  | (split at h
     · rename_i neg hk
       split at h
       · rename_i hc
         simp only[Bool.and_eq_true]at hc;obtain⟨v,hk2,hrun⟩:=Qv5 htab hx hy hc.1 hc.2 h;have ho:=Qup hk;rw[exec,ho];exact Z6.same hm (by simp only[Sem.run_bind]at hrun⊢;simp[hrun]) (.pv (.lit _)) hk2
       · exact h.elim
     · split at h
       · rename_i r hr
         have hrun:=Qrt (P:=P) (t:=t) hx hy hr;rw[exec];exact Z6.same hm (by have:=hrun w x y;simp only[Sem.run_bind]at this⊢;simp[this]) (.pv (.lit _)) h
       · exact W1 hm hev h)
def Qav(neg:Bool):SV→Option Qn
 |.pv (.tsl row l)=>some (.split (decide (l.length=0)) (.both (.ok (.lit (.bool true))) (.ok (.lit (.bool false)))) (.ok (.lit (.bool neg))))
 |.sl s sz st n=>some (.split (decide (n=0)) (.both (.ok (.lit (.bool true))) (.ok (.lit (.bool false)))) (.ok (.lit (.bool neg))))
 |_=>none
def Qis(tab:Qo)(op:BinOp)(t:Nat)(a b:SV):Option Qn:=match b with
 |.pv (.lit (.slice none 0 0))=>match tab.lookup t with
  |some {desc:=.slice e,..}=>match op with
   |.eql=>Qav false a
   |.neq=>Qav true a
   |_=>none
  |_=>none
 |_=>none
theorem Zir{P:Program}{t e:Nat}(hu:P.underlying t=some (.slice e))(a:Option Addr)(n c:Nat)(w:World):(Op.equal t (.slice a n c) (.slice none 0 0)).run P w=.ok a.isNone w:=by
 have key:∀d:Nat,(Op.equalIn (d+1) t (.slice a n c) (.slice none 0 0)).run P w=.ok a.isNone w:=fun d=>by unfold Op.equalIn;cases a<;>simp[Sem.run_bind,run_underlying hu]
 exact key (Op.maxDepth-1)
theorem Qyw{P:Program}{t e:Nat}(hu:P.underlying t=some (.slice e))(a:Option Addr)(n c:Nat)(w:World)(x y:Operand):
  (do eqGuard .eql t x y (.slice a n c) (.slice none 0 0);binOp .eql t (.slice a n c) (.slice none 0 0):Sem Value).run P w=.ok (.bool a.isNone) w∧
  (do eqGuard .neq t x y (.slice a n c) (.slice none 0 0);binOp .neq t (.slice a n c) (.slice none 0 0):Sem Value).run P w=.ok (.bool (!a.isNone)) w:=by
 constructor<;>simp[Sem.run_bind,eqGuard,binOp,Zir hu]
theorem Qw5{M:Qc}{ρ:Env}{H:List Qa}{K:Qr}{neg:Bool}{a:SV}{v:Value}{r:Qn}(ha:Qe M ρ v a)(hr:Qav neg a=some r)(h:r.holds H K):
  ∃ad n c,v=.slice ad n c∧∀b:Bool,(b=true→ad.isNone≠neg)→(b=false→ad.isNone=neg)→True:=by
 unfold Qav at hr;split at hr
 ·cases ha with
  |pv hp=>cases hp with
   |tsl _ _ hp=>obtain⟨ad,n,c,rfl⟩:=hp.Qgb;exact⟨ad,n,c,rfl,fun _ _ _=>trivial⟩
 ·cases ha with
  |sl _ _ _ _ c k p hp hk hc hn h6=>exact⟨_,_,_,rfl,fun _ _ _=>trivial⟩
  |slz _ _ _ ad=>exact⟨_,_,_,rfl,fun _ _ _=>trivial⟩
 ·cases hr
theorem Qzr{M:Qc}{ρ:Env}{H:List Qa}{K:Qr}{neg:Bool}{a:SV}{r:Qn}{ad:Option Addr}{n c:Nat}(ha:Qe M ρ (.slice ad n c) a)(hr:Qav neg a=some r)(h:r.holds H K):K (.lit (.bool (xor neg ad.isNone))) H [] []:=by
 have both:∀b:Bool,(K (.lit (.bool true)) H [] []∧K (.lit (.bool false)) H [] [])→K (.lit (.bool b)) H [] []:=fun b h=>by cases b;exact h.2;exact h.1
 unfold Qav at hr;split at hr
 ·rename_i row l;cases hr;obtain⟨h1,h2⟩:=h;by_cases e:l.length=0
  ·exact both _ (h1 (decide_eq_true e))
  ·have hk:=h2 (decide_eq_false e);have hs:ad.isNone=false:=by
    cases ha with
    |pv hp=>cases hp with
     |tsl _ _ hp=>
      have hll:(Qu row l).length=l.length:=by simp[Qu]
      generalize hq:Qu row l=q at hp hll;cases hp with
      |rnil _=>simp at hll;omega
      |remp a c _=>simp at hll;omega
      |rsl b off c _ n _ hn hc h0 h1 h2=>rfl
   rw[hs,Bool.xor_false];exact hk
 ·rename_i s sz st m;cases hr;obtain⟨h1,h2⟩:=h;by_cases e:m=0
  ·exact both _ (h1 (decide_eq_true e))
  ·have hk:=h2 (decide_eq_false e);have hs:ad.isNone=false:=by
    cases ha with
    |sl _ _ _ _ c k p hp hk hc hn h6=>rfl
    |slz _ _ _ ad=>exact absurd rfl e
   rw[hs,Bool.xor_false];exact hk
 ·cases hr
theorem Qtp{P:Program}{tab:Qo}(htab:Qf P tab){M:Qc}{ρ:Env}{H:List Qa}{K:Qr}{op:BinOp}{t:Nat}{a b:SV}{va vb:Value}{r:Qn}(ha:Qe M ρ va a)(hb:Qe M ρ vb b)(hr:Qis tab op t a b=some r)(h:r.holds H K):
  ∃q:Bool,(∀(w:World) (x y:Operand),(do eqGuard op t x y va vb;binOp op t va vb:Sem Value).run P w=.ok (.bool q) w)∧K (.lit (.bool q)) H [] []:=by
 unfold Qis at hr;split at hr
 ·have eb:=hb.Q1;subst eb;split at hr
  ·rename_i e sz' by' zr rw' hte;have hu:P.underlying t=some (.slice e):=(htab.get hte).und;split at hr
   ·obtain⟨ad,n,c,rfl,_⟩:=Qw5 ha hr h;have:=Qzr ha hr h;rw[Bool.false_xor]at this;exact⟨_,fun w x y=>(Qyw hu ad n c w x y).1,this⟩
   ·obtain⟨ad,n,c,rfl,_⟩:=Qw5 ha hr h;have:=Qzr ha hr h;rw[Bool.true_xor]at this;exact⟨_,fun w x y=>(Qyw hu ad n c w x y).2,this⟩
   ·cases hr
  ·cases hr
 ·cases hr
def Qn4(t:TypeId):Sem (Array (Nat×Nat)):=do
 match←underlying t with
 |.struct fields=>fields.mapM fun f=>do pure (f.offset,←sizeOf f.type)
 |_=>stuck ""
def Qbg(P:Program)(tab:Qo)(t:Nat)(parts:List (Nat×SV)):Qn:=
 match tab.lookup t with
 |none=>.fail
 |some i=>match i.desc with
  |.struct _=>match Zv P (Qn4 t)with
   |none=>.fail
   |some places=>match Wj (places[·]?) (i.zero.cells.toList.map SV.lit) parts with
    |none=>.fail
    |some l=>.ok (.Yd l)
  |.array _ e=>match tab.lookup e with
   |none=>.fail
   |some ie=>match Wj (fun k=>some (k*ie.size,ie.size)) (i.zero.cells.toList.map SV.lit) parts with
    |none=>.fail
    |some l=>.ok (.Yd l)
  |_=>.fail
theorem Qeg{M:Qc}{ρ:Env}{P:Program}{t:TypeId}{i:TI}(h:Yf P t i):Qai M ρ i.zero.cells (i.zero.cells.toList.map SV.lit):=
 ⟨by simp,fun k u y hu hy=>by simp only[List.getElem?_map,Option.map_eq_some_iff]at hy;obtain⟨z,hz,rfl⟩:=hy;rw[Array.getElem?_toList,hu]at hz;cases hz;exact .pv (.lit _),fun k u hu=>(Array.all_eq_true_iff_forall_mem.1 h.zon) u (Array.mem_of_getElem? hu)⟩
theorem Zdj{P:Program}{tab:Qo}(htab:Qf P tab){M:Qc}{ρ:Env}{H:List Qa}{w:World}{K:Qr}(hm:Mem M ρ H w){t:Nat}{vp:Array (Nat×Value)}{sp:List (Nat×SV)}
  (hl:vp.size=sp.length) (hp:∀(k:Nat) (a:Nat×Value) (b:Nat×SV),vp.toList[k]? =some a→sp[k]? =some b→a.1=b.1∧Qe M ρ a.2 b.2)
  (h:(Qbg P tab t sp).holds H K):Qv P (Instr.build t vp) M ρ H w K:=by
 unfold Qbg at h;split at h
 ·exact h.elim
 ·rename_i i hi;have ht:=htab.get hi;have hz:=We ht w;split at h
  ·rename_i fields hd;have hu:P.underlying t=some (.struct fields):=by rw[ht.und,hd]
   split at h
   ·exact h.elim
   ·rename_i places hpl;split at h
    ·exact h.elim
    ·rename_i l hf;obtain⟨cs',g1,g2⟩:=Qam (M:=M) (ρ:=ρ) (Qeg ht) (by simpa using hl) hp hf;have hrun:=Kn hpl w;simp only[Qn4,Sem.run_bind,run_underlying hu,Result.andThen_ok]at hrun;refine Qv.same hm (v:=.agg cs') ?_ ?_ h
     ·simp only[Instr.build,Sem.run_bind,hz,Result.andThen_ok,run_underlying hu,hrun];rw[g1];rfl
     ·have:=Qe.Yd (M:=M) (ρ:=ρ) (cs:=cs'.toList) (l:=l) (by simpa using g2.sz) (fun k v x hv hx=>g2.rep k v x (by rw[←Array.getElem?_toList];exact hv) hx);simpa using this
  ·rename_i n e hd;have hu:P.underlying t=some (.array n e):=by rw[ht.und,hd]
   split at h
   ·exact h.elim
   ·rename_i ie hie;obtain⟨inf,hinf,i1,_⟩:=(htab.get hie).inf;split at h
    ·exact h.elim
    ·rename_i l hf;obtain⟨cs',g1,g2⟩:=Qam (M:=M) (ρ:=ρ) (Qeg ht) (by simpa using hl) hp hf;refine Qv.same hm (v:=.agg cs') ?_ ?_ h
     ·simp only[Instr.build,Sem.run_bind,hz,Result.andThen_ok,run_underlying hu,sizeOf,typeInfo,run_program,hinf,Sem.run_pure,i1];rw[g1];rfl
     ·have:=Qe.Yd (M:=M) (ρ:=ρ) (cs:=cs'.toList) (l:=l) (by simpa using g2.sz) (fun k v x hv hx=>g2.rep k v x (by rw[←Array.getElem?_toList];exact hv) hx);simpa using this
  ·exact h.elim
def Qb7(tab:Qo)(t:Nat)(x:SV)(f:Nat):Qn:=
 match x,tab.lookup t with
 |.agg l,some {desc:=.struct fields,..}=>match fields[f]? with
  |none=>.fail
  |some fd=>match tab.lookup fd.type with
   |none=>.fail
   |some i=>if i.desc.isRow then .need (decide (fd.offset+i.size≤l.length)) (.ok (.Yd ((l.drop fd.offset).take i.size)))else .need (decide (fd.offset<l.length)) (.ok (l.getD fd.offset .any))
 |_,_=>.fail
theorem Zqh{P:Program}{tab:Qo}(htab:Qf P tab){M:Qc}{ρ:Env}{H:List Qa}{w:World}{K:Qr}(hm:Mem M ρ H w){t f:Nat}{x:SV}{v:Value}(hx:Qe M ρ v x)
  (h:(Qb7 tab t x f).holds H K):Qv P (Instr.field t v f) M ρ H w K:=by
 unfold Qb7 at h;split at h
 ·rename_i l fields sz' by' zr rw' hte;have hu:P.underlying t=some (.struct fields):=(htab.get hte).und;cases hx with
  |agg cs _ hl hr=>
   split at h
   ·exact h.elim
   ·rename_i fd hfd;split at h
    ·exact h.elim
    ·rename_i i hi;have ht:=htab.get hi;obtain⟨inf,hinf,i1,_⟩:=ht.inf;split at h
     ·rename_i hd;simp only[Qn.holds,decide_eq_true_eq]at h;obtain⟨hle,h⟩:=h;refine Qv.same hm (v:=.agg (cs.extract fd.offset (fd.offset+i.size))) ?_ ?_ h
      ·simp[Instr.field,run_underlying hu,hfd,asAgg,part,Uf ht,hd,sizeOf,typeInfo,hinf,i1]
      ·have:=Qe.Yd (M:=M) (ρ:=ρ) (cs:=(cs.extract fd.offset (fd.offset+i.size)).toList) (l:=(l.drop fd.offset).take i.size) (by simp;omega) (fun k v x hv hx=>by
        rw[List.getElem?_take]at hx;split at hx
        ·rename_i hk;rw[List.getElem?_drop]at hx;rw[Array.getElem?_toList,Array.getElem?_extract]at hv;split at hv
         ·exact hr _ v x hv hx
         ·cases hv
        ·cases hx)
       rwa[Array.toArray_toList]at this
     ·rename_i hd;simp only[Qn.holds,decide_eq_true_eq]at h;obtain⟨hle,h⟩:=h;have hlt:fd.offset<cs.size:=by omega
      refine Qv.same hm (v:=cs[fd.offset]) ?_ ?_ h
      ·simp[Instr.field,run_underlying hu,hfd,asAgg,part,Uf ht,hd,hlt]
      ·rw[List.getD_eq_getElem?_getD,List.getElem?_eq_getElem hle];exact hr fd.offset _ _ (by simp[hlt]) (by simp[hle])
 ·exact h.elim
def Uh(P:Program)(tab:Qo)(ev:Operand→SV)(o:Oper)(t:Nat)(x i:SV):Qn:=match x,i with
 |.pv (.lit (.string s)),.pv (.lit (.int _ n))=>match tab.lookup t with
  |some {desc:=.string,..}=>.need (decide (0≤n)) (.need (decide (n.toNat<s.size)) (.ok (.lit (.int .u8 ((s.get! n.toNat).toNat:Int)))))
  |_=>.fail
 |_,_=>X3 P ev o
theorem Qwm{P:Program}{tab:Qo}(htab:Qf P tab){ev:Operand→SV}{o:Oper}{t:Nat}{s:ByteArray}{k:IntKind}{n:Int}{H:List Qa}{K:Qr}
  (h:(Uh P tab ev o t (.pv (.lit (.string s))) (.pv (.lit (.int k n)))).holds H K):∃v:Value,K (.pv (.lit v)) H [] []∧∀w,(Instr.index t (.string s) (.int k n)).run P w=.ok v w:=by
 simp only[Uh]at h;split at h
 ·rename_i sz' by' zr rw' hte;have hu:P.underlying t=some .string:=(htab.get hte).und;obtain⟨h1,h2,h⟩:=h;have h1:=of_decide_eq_true h1;have h2:=of_decide_eq_true h2;refine⟨_,h,fun w=>?_⟩;have e:s.get! n.toNat=s[n.toNat]:=by show s.data[n.toNat]! =_;rw[getElem!_pos s.data n.toNat h2];rfl
  simp[Instr.index,asIntOf,run_underlying hu,h1,h2,e]
 ·exact h.elim
def sop(P:Program)(tab:Qo)(H:List Qa)(ev:Operand→SV)(o:Oper):Qn:=
 match o.op with
 |.move x=>.ok (ev x)
 |.assign x=>.ok (ev x)
 |.pick c a b=>match ev c with
  |.pv (.lit (.bool t))=>.split t (.ok (ev a)) (.ok (ev b))
  |_=>.fail
 |.alloc t=>Qh3 tab H t
 |.box t x=>Qk1 tab H t (ev x)
 |.build t parts=>Qbg P tab t (parts.toList.map fun p=>(p.1,ev p.2))
 |.buildSlice t len parts=>Qgf tab H t len (parts.toList.map fun p=>(p.1,ev p.2))
 |.load t a=>Ka tab H t (ev a)
 |.store t a x=>Qgx tab H t (ev a) (ev x)
 |.nilCheck x=>match ev x with
  |.ptr s sz i j=>.ok (.ptr s sz i j)
  |.pv (.rptr sz r i j)=>.ok (.pv (.rptr sz r i j))
  |.mp s=>.ok (.mp s)
  |.fn (.func f) a b=>.ok (.fn (.func f) a b)
  |_=>X3 P ev o
 |.binOp op t x y _=>match Qis tab op t (ev x) (ev y)with
  |some r=>r
  |none=>Qcr P tab ev o op t (ev x) (ev y)
 |.makeFunc fn a b=>.ok (.fn fn (a.toList.map ev) (b.toList.map ev))
 |.makeMap t r=>match r with
  |none=>Qsq H
  |some _=>.fail
 |.makeSlice t l c=>Qm6 tab H t (ev l) (ev c)
 |.slice t x lo hi mx=>match mx with
  |none=>Qbv tab H t (ev x) (lo.map ev) (hi.map ev)
  |some m=>Qi8 tab t (ev x) (lo.map ev) (hi.map ev) (ev m)
 |.fieldAddr t x f=>Qbe tab t (ev x) f
 |.field t x f=>match ev x with
  |.agg l=>Qb7 tab t (.agg l) f
  |_=>X3 P ev o
 |.indexAddr t x ix=>Qcu tab t (ev x) (ev ix)
 |.lookup t m k ok=>Qcz P tab H t (ev m) (ev k) ok
 |.mapUpdate t m k x=>Qfg P tab H t (ev m) (ev k) (ev x)
 |.insert t m k x=>Qfg P tab H t (ev m) (ev k) (ev x)
 |.mapEntry t m k=>Qo1 P tab H t (ev m) (ev k)
 |.entryStore _ m s x=>Qgj H (ev m) (ev s) (ev x)
 |.range t x=>Qnq tab H t (ev x)
 |.next x isString=>if isString then Qh8 H (ev x)else Qoh H (ev x)
 |.entry x=>Qpn H (ev x)
 |.extract x i=>match ev x with
  |.tup l=>match l[i]? with
   |some y=>.ok y
   |none=>.fail
  |_=>X3 P ev o
 |.call {callee:=.builtin .append,args,argTypes}=>match args.toList,argTypes.toList with
  |[a,x],[t,t']=>match ev a,ev x with
   |.pv (.lit (.slice none 0 0)),.pv (.lit (.int _ n))=>Qj0 tab H t t' n
   |_,_=>Qg3 tab H t t' (ev a) (ev x)
  |_,_=>.fail
 |.call {callee:=.builtin .len,args,argTypes}=>match args.toList,argTypes.toList with
  |[x],[t]=>Qbq tab H t (ev x)
  |_,_=>.fail
 |.call {callee:=.builtin .copy,args,argTypes}=>match args.toList,argTypes.toList with
  |[a,x],[t,t']=>Qqr tab H t t' (ev a) (ev x)
  |_,_=>.fail
 |.call {callee:=.builtin .clear,args,argTypes}=>match args.toList,argTypes.toList with
  |[x],[t]=>Qyr tab H t (ev x).unslb
  |_,_=>.fail
 |.call {callee:=.builtin _,..}=>X3 P ev o
 |.unOp ..=>X3 P ev o
 |.convert ..=>X3 P ev o
 |.index t x ix=>Uh P tab ev o t (ev x) (ev ix)
 |.makeInterface ..=>X3 P ev o
 |_=>.fail
theorem Qje{M:Qc}{ρ:Env}{ev:Operand→SV}{va:Operand→Value}(hev:∀x,Qe M ρ (va x) (ev x))(parts:Array (Nat×Operand)):
  (parts.map fun(x:Nat×Operand)=>(x.1,va x.2)).size=(parts.toList.map fun p=>(p.1,ev p.2)).length∧
  ∀(k:Nat) (a:Nat×Value) (b:Nat×SV),(parts.map fun(x:Nat×Operand)=>(x.1,va x.2)).toList[k]? =some a→(parts.toList.map fun p=>(p.1,ev p.2))[k]? =some b→a.1=b.1∧Qe M ρ a.2 b.2:=by
 refine⟨by simp,fun k a b ha hb=>?_⟩;simp only[Array.toList_map,List.getElem?_map,Option.map_eq_some_iff]at ha hb;obtain⟨p,hp,rfl⟩:=ha;obtain⟨q,hq,rfl⟩:=hb;rw[hp]at hq;cases hq;exact⟨rfl,hev _⟩
theorem Qck{M:Qc}{ρ:Env}{ev:Operand→SV}{va:Operand→Value}(hev:∀x,Qe M ρ (va x) (ev x))(a:Array Operand):
  (a.map va).size=(a.toList.map ev).length∧∀(i:Nat) (v:Value) (s:SV),(a.map va)[i]? =some v→(a.toList.map ev)[i]? =some s→Qe M ρ v s:=by
 refine⟨by simp,fun i v s hv hs=>?_⟩;simp only[Array.getElem?_map,List.getElem?_map,Option.map_eq_some_iff]at hv hs;obtain⟨p,hp,rfl⟩:=hv;obtain⟨q,hq,rfl⟩:=hs;rw[Array.getElem?_toList,hp]at hq;cases hq;exact hev _
theorem V6{M:Qc}{ρ:Env}{ev:Operand→SV}{va:Operand→Value}(hev:∀x,Qe M ρ (va x) (ev x))(a:Option Operand):
  (a.map va).isSome=(a.map ev).isSome∧∀v x,a.map va=some v→a.map ev=some x→Qe M ρ v x:=by
 cases a with
 |none=>exact⟨rfl,fun v x h=>by simp at h⟩
 |some y=>exact⟨rfl,fun v x h k=>by simp at h k;subst h;subst k;exact hev y⟩
theorem Zd0{P:Program}{tab:Qo}(htab:Qf P tab){M:Qc}{ρ:Env}{H:List Qa}{w:World}{K:Qr}{ev:Operand→SV}{va:Operand→Value}(hm:Mem M ρ H w)(hev:∀x,Qe M ρ (va x) (ev x)){o:Oper}
  (h:(sop P tab H ev o).holds H K):Z6 P (execOp va o) M ρ H w K:=by
 unfold sop at h;split at h
 ·rename_i x ho;exact Z6.same hm (by simp[execOp,ho]) (hev x) h
 ·rename_i x ho;exact Z6.same hm (by simp[execOp,ho]) (hev x) h
 ·rename_i c a b ho;have hc:=hev c;split at h
  ·rename_i t e;rw[e]at hc;have ec:=hc.Q1;obtain⟨h1,h2⟩:=h;cases t with
   |true=>exact Z6.same hm (by simp[execOp,ho,ec,asBool]) (hev a) (h1 rfl)
   |false=>exact Z6.same hm (by simp[execOp,ho,ec,asBool]) (hev b) (h2 rfl)
  ·exact h.elim
 ·rename_i t ho;have:=(Ztr htab hm (old:=.tuple #[]) h).toN;simpa[execOp,ho]using this
 ·rename_i t x ho;have:=(Zdr htab hm (hev x) h).toN;simpa[execOp,ho]using this
 ·rename_i t parts ho;obtain⟨h1,h2⟩:=Qje hev parts;have:=(Zdj htab hm h1 h2 h).toN;simpa[execOp,ho]using this
 ·rename_i t len parts ho;obtain⟨h1,h2⟩:=Qje hev parts;have:=(Zg9 htab hm h1 h2 h).toN;simpa[execOp,ho]using this
 ·rename_i t a ho;have:=(Zpb htab hm (hev a) h).toN;simpa[execOp,ho]using this
 ·rename_i t a x ho;have:=(Zbs htab hm (hev a) (hev x) h).toN;simpa[execOp,ho]using this
 ·rename_i x ho;have hx:=hev x;split at h
  ·rename_i s sz i j e;rw[e]at hx;cases hv:va x with
   |pointer a=>
    rw[hv]at hx;cases hx with
    |ptr _ _ _ _ k p hp hk=>exact Z6.same hm (v:=.pointer (some ⟨p.block,k,none⟩)) (by simp[execOp,ho,hv]) (.ptr _ _ _ _ k p hp hk) h
   |_=>rw[hv]at hx;cases hx
  ·rename_i sz r i j e;rw[e]at hx;generalize hv:va x=vx at hx;cases hx with
   |pv hp=>
    cases hp with
    |rptr b off _ _ _ k _ hk h0 h1 h2=>exact Z6.same hm (v:=.pointer (some ⟨b,k,none⟩)) (by simp[execOp,ho,hv]) (.pv (.rptr b off sz i j k r hk h0 h1 h2)) h
  ·rename_i s e;rw[e]at hx;cases hv:va x with
   |map a=>rw[hv]at hx;exact Z6.same hm (v:=.map a) (by simp[execOp,ho,hv]) hx h
   |_=>rw[hv]at hx;cases hx
  ·rename_i f a b e;rw[e]at hx;cases hv:va x with
   |func g c d=>
    rw[hv]at hx;cases hx with
    |fn _ _ _ _ _ ha hb hh hk=>exact Z6.same hm (v:=.func (.func f) c d) (by simp[execOp,ho,hv]) (.fn _ _ _ _ _ ha hb hh hk) h
   |_=>rw[hv]at hx;cases hx
  ·exact W1 hm hev h
 ·rename_i op t x y t' ho;split at h
  ·rename_i r hr;obtain⟨q,hrun,hk⟩:=Qtp (P:=P) htab (hev x) (hev y) hr h;have exec:execOp va o=(do pure (.value (←(do eqGuard op t x y (va x) (va y);binOp op t (va x) (va y))))):=by simp[execOp,ho]
   rw[exec];exact Z6.same hm (by have:=hrun w x y;simp only[Sem.run_bind]at this⊢;simp[this]) (.pv (.lit _)) hk
  ·exact Zkz htab hm hev ho h
 ·rename_i fn a b ho;obtain⟨a1,a2⟩:=Qck hev a;obtain⟨b1,b2⟩:=Qck hev b;exact Z6.same hm (by simp[execOp,ho,Instr.makeFunc]) (.fn fn _ _ _ _ a1 b1 a2 b2) h
 ·rename_i t r ho;split at h
  ·have:=(Zkc (P:=P) (t:=t) hm h).toN;simpa[execOp,ho]using this
  ·exact h.elim
 ·rename_i t l c ho;have:=(Ze2 htab hm (hev l) (hev c) h).toN;simpa[execOp,ho]using this
 ·rename_i t x lo hi mx ho;split at h
  ·obtain⟨l1,l2⟩:=V6 hev lo;obtain⟨h1,h2⟩:=V6 hev hi;have:=(Zg2 htab hm (hev x) l1 l2 h1 h2 h).toN;simpa[execOp,ho]using this
  ·rename_i m;obtain⟨l1,l2⟩:=V6 hev lo;obtain⟨h1,h2⟩:=V6 hev hi;obtain⟨v',hr,y,hy,hk⟩:=Qq6 htab (hev x) l1 l2 h1 h2 (hev m) h;have:=(Qv.same hm (hr w) hy hk).toN;simpa[execOp,ho]using this
 ·rename_i t x f ho;have:=(Zgw htab hm (hev x) h).toN;simpa[execOp,ho]using this
 ·rename_i t x f ho;split at h
  ·rename_i l e;have hx:=hev x;rw[e]at hx;have:=(Zqh htab hm hx h).toN;simpa[execOp,ho]using this
  ·exact W1 hm hev h
 ·rename_i t x ix ho;have:=(Za4 htab hm (hev x) (hev ix) h).toN;simpa[execOp,ho]using this
 ·rename_i t m k ok ho;have:=(Zny htab hm (hev m) (hev k) h).toN;simpa[execOp,ho]using this
 ·rename_i t m k x ho;have:=(Qr4 htab hm (hev m) (hev k) (hev x) h).toN;simpa[execOp,ho]using this
 ·rename_i t m k x ho;have:=(Qr4 htab hm (hev m) (hev k) (hev x) h).toN;simpa[execOp,ho]using this
 ·rename_i t m k ho;have:=(Znj htab hm (hev m) (hev k) h).toN;simpa[execOp,ho]using this
 ·rename_i t m s x ho;have:=(Zbb (P:=P) (t:=t) hm (hev m) (hev s) (hev x) h).toN;simpa[execOp,ho]using this
 ·rename_i t x ho;have:=(Zpn htab hm (hev x) h).toN;simpa[execOp,ho]using this
 ·rename_i x isS ho;split at h
  ·rename_i e;subst e;have:=(Zmk (P:=P) (t:=o.type) hm (hev x) h).toN;simpa[execOp,ho]using this
  ·rename_i e;have e:isS=false:=by simpa using e
   subst e;have:=(Zcd (P:=P) (t:=o.type) hm (hev x) h).toN;simpa[execOp,ho]using this
 ·rename_i x ho;have:=(Zsl (P:=P) hm (hev x) h).toN;simpa[execOp,ho]using this
 ·rename_i x i ho;split at h
  ·rename_i l e;have hx:=hev x;rw[e]at hx;cases hv:va x with
   |tuple cs=>
    rw[hv]at hx;cases hx with
    |tup _ _ hl hr=>
     split at h
     ·rename_i y hy;have hlt:i<cs.size:=by have:=(List.getElem?_eq_some_iff.1 hy).1;omega
      exact Z6.same hm (v:=cs[i]) (by simp[execOp,ho,hv,Instr.extract,hlt]) (hr i _ y (by simp[hlt]) hy) h
     ·exact h.elim
   |_=>rw[hv]at hx;cases hx
  ·exact W1 hm hev h
 ·rename_i args argTypes ho;split at h
  ·rename_i a x t t' ea et;have ea':args= #[a,x]:=by rw[←Array.toArray_toList (xs:=args),ea]
   have et':argTypes= #[t,t']:=by rw[←Array.toArray_toList (xs:=argTypes),et]
   subst ea';subst et';split at h
   ·rename_i k n e1 e2;have h1:=hev a;have h2:=hev x;rw[e1]at h1;rw[e2]at h2;have e1:=h1.Q1;have e2:=h2.Q1;have:=(Zig (ty:=o.type) (k:=k) htab hm h).toN;simpa[execOp,ho,resolve,invoke,builtin,e1,e2]using this
   ·have:=(Zoq (ty:=o.type) htab hm (hev a) (hev x) h).toN;simpa[execOp,ho,resolve,invoke,builtin]using this
  ·exact h.elim
 ·rename_i args argTypes ho;split at h
  ·rename_i x t ea et;have ea':args= #[x]:=by rw[←Array.toArray_toList (xs:=args),ea]
   have et':argTypes= #[t]:=by rw[←Array.toArray_toList (xs:=argTypes),et]
   subst ea';subst et';have:=(Zs8 (ty:=o.type) htab hm (hev x) h).toN;simpa[execOp,ho,resolve,invoke,builtin]using this
  ·exact h.elim
 ·rename_i args argTypes ho;split at h
  ·rename_i a x t t' ea et;have ea':args= #[a,x]:=by rw[←Array.toArray_toList (xs:=args),ea]
   have et':argTypes= #[t,t']:=by rw[←Array.toArray_toList (xs:=argTypes),et]
   subst ea';subst et';have:=(Zpo (ty0:=o.type) htab hm (hev a) (hev x) h).toN;simpa[execOp,ho,resolve,invoke,builtin]using this
  ·exact h.elim
 ·rename_i args argTypes ho;split at h
  ·rename_i x t ea et;have ea':args= #[x]:=by rw[←Array.toArray_toList (xs:=args),ea]
   have et':argTypes= #[t]:=by rw[←Array.toArray_toList (xs:=argTypes),et]
   subst ea';subst et';have:=(Zna (ty0:=o.type) htab hm (hev x).unslb h).toN;simpa[execOp,ho,resolve,invoke,builtin]using this
  ·exact h.elim
 ·exact W1 hm hev h
 ·exact W1 hm hev h
 ·exact W1 hm hev h
 ·rename_i t x ix ho;generalize ex:ev x=sx at h;generalize ei:ev ix=si at h;unfold Uh at h;split at h
  ·have hx:=hev x;have hi:=hev ix;rw[ex]at hx;rw[ei]at hi;have ex':=hx.Q1;have ei':=hi.Q1;rename_i k _;obtain⟨v,hk,hr⟩:=Qwm (P:=P) (ev:=ev) (o:=o) (k:=k) (H:=H) (K:=K) htab (by simpa only[Uh]using h);exact Z6.same hm (by simp[execOp,ho,ex',ei',hr]) (.pv (.lit v)) hk
  ·exact W1 hm hev h
 ·exact W1 hm hev h
 ·exact h.elim
structure Cx where
 P:Program
 tab:Qo
 fns:List (Nat×Func)
 low:Bool:=false
structure Ql (P:Program) (fns:List (Nat×Func)):Prop where
 ok:∀f fn,fns.lookup f=some fn→P.funcs[f]? =some fn∧∀args w,(callFunc f args).run P w=.ok (.enter f args) w
theorem Ql.nil(P:Program):Ql P []:=⟨fun f fn h=>by simp at h⟩
theorem Ql.cons{P:Program}{g:Nat}{gn:Func}{rest:List (Nat×Func)}(h1:P.funcs[g]? =some gn)(h2:∀args w,(callFunc g args).run P w=.ok (.enter g args) w)(hr:Ql P rest):Ql P ((g,gn)::rest):=by
 refine⟨fun f fn h=>?_⟩;rw[List.lookup_cons]at h;split at h
 ·rename_i e;have e:f=g:=by simpa using e
  subst e;cases h;exact⟨h1,h2⟩
 ·exact hr.ok f fn h
structure Cx.Ok (c:Cx):Prop where
 tab:Qf c.P c.tab
 fns:Ql c.P c.fns
 mix:c.P.follows .mixedOrders=true
def Cx.Wy(c:Cx):Cx:={P:=c.P,tab:=c.tab,fns:=c.fns,low:=true}
theorem Cx.Ok.Wy{c:Cx}(h:c.Ok):c.Wy.Ok:=⟨h.tab,h.fns,h.mix⟩
theorem Cx.Ok.fn{c:Cx}(h:c.Ok){f:Nat}{fn:Func}(hf:c.fns.lookup f=some fn):c.P.funcs[f]? =some fn∧∀args w,(callFunc f args).run c.P w=.ok (.enter f args) w:=h.fns.ok f fn hf
def Vq(P:Program)(o:Oper)(a:Act)(w:World)(N:Value→World→Prop):Prop:=
 (∃v w',((execOp a.eval o).run P w=.ok (.value v) w'∨((execOp a.eval o).run P w=.ok .skip w'∧v=undef))∧N v w')∨
 (∃f args w1,(execOp a.eval o).run P w=.ok (.enter f args) w1∧CallsIn Fence.wide 0 P f args w1 fun e w'=>∃v,e=.returned v∧N v w')∨
 ∃l f tmps assign body w1,(execOp a.eval o).run P w=.ok (.round l f tmps assign body) w1∧RoundIn Fence.wide 0 P l f tmps assign body w1 fun e w'=>∃v,e=.returned v∧N v w'
theorem Vq.mono{P:Program}{o:Oper}{a:Act}{w:World}{N N':Value→World→Prop}(h:Vq P o a w N)(hn:∀v w',N v w'→N' v w'):Vq P o a w N':=by
 rcases h with⟨v,w',hr,hN⟩|⟨f,args,w1,hr,hc⟩|⟨l,f,tmps,as,bd,w1,hr,hc⟩
 ·exact .inl ⟨v,w',hr,hn _ _ hN⟩
 ·exact .inr (.inl ⟨f,args,w1,hr,hc.mono fun e w' ⟨v,he,hN⟩=>⟨v,he,hn _ _ hN⟩⟩)
 ·exact .inr (.inr ⟨l,f,tmps,as,bd,w1,hr,hc.mono fun e w' ⟨v,he,hN⟩=>⟨v,he,hn _ _ hN⟩⟩)
def Xl:Op→Bool
 |.defer _=>false
 |_=>true
theorem Vq.wpIn{R:Option Nat}{P:Program}{o:Oper}{a:Act}{w:World}{N:Value→World→Prop}{next:Act→World→Prop}{Q:Exit→Act→World→Prop}(hd:Xl o.op=true)(h:Vq P o a w N)
  (hn:∀v w',N v w'→next (a.put o.dst v) w'):o.wpIn (FW R) 0 P a w next Q:=by
 refine⟨fun _ _=>trivial,?_⟩;have hs:o.semAt (FW R).round a.eval=execOp a.eval o:=Oper.semAt_eq _ _ o fun c hc=>by rw[hc]at hd;cases hd
 rw[hs];rcases h with⟨v,w',hr|⟨hr,rfl⟩,hN⟩|⟨f,args,w1,hr,hc⟩|⟨l,f,tmps,as,bd,w1,hr,hc⟩
 ·rw[hr];exact hn v w' hN
 ·rw[hr];exact hn _ w' hN
 ·rw[hr];show(((FW R).depth.isSome=true→1≤0)∧_);refine⟨fun hx=>by simp[FW,Fence.wide]at hx,?_⟩;have hc':CallsIn (FW R) (0-1) P f args w1 fun e w'=>∃v,e=.returned v∧N v w':=hc;refine hc'.mono ?_
  rintro e w' ⟨v,rfl,hN⟩
  exact hn v w' hN
 ·rw[hr];show(((FW R).depth.isSome=true→1≤0)∧_);refine⟨fun hx=>by simp[FW,Fence.wide]at hx,?_⟩;have hc':RoundIn (FW R) (0-1) P l f tmps as bd w1 fun e w'=>∃v,e=.returned v∧N v w':=hc;refine hc'.mono ?_
  rintro e w' ⟨v,rfl,hN⟩
  exact hn v w' hN
def Ke(P:Program)(s:Nat)(args:List SV)(H:List Qa)(Q:Qr):Prop:=
 ∀M ρ w p vs,Mem M ρ H w→ρ s=some p→Yu M ρ vs args→∃l f tmps assign body w1,(Instr.yield p.block vs.toArray).run P w=.ok (.round l f tmps assign body) w1∧
  RoundIn Fence.wide 0 P l f tmps assign body w1 fun e w'=>∃v r H' M' ρ' tch fg,e=.returned v∧Q r H' tch fg∧Qe M' ρ' v r∧Mem M' ρ' H' w'∧Fr M ρ H w M' ρ' H' w' H.length tch fg
theorem Ke.mono{P:Program}{s:Nat}{args:List SV}{H:List Qa}{Q Q':Qr}(h:Ke P s args H Q)(hq:∀r H' t g,Q r H' t g→Q' r H' t g):Ke P s args H Q':=
 fun M ρ w p vs hm hp hr=>let⟨l,f,tmps,as,bd,w1,hrun,hc⟩:=h M ρ w p vs hm hp hr
  ⟨l,f,tmps,as,bd,w1,hrun,hc.mono fun e w' ⟨v,r,H',M',ρ',t,g,he,q,rest⟩=>⟨v,r,H',M',ρ',t,g,he,hq _ _ _ _ q,rest⟩⟩
def Qbh(ev:Operand→SV)(c:Call):Option (Nat×List SV):=
 match c.callee with
 |.value f=>match ev f with
  |.yld s=>some (s,c.args.toList.map ev)
  |_=>none
 |_=>none
def target(ev:Operand→SV)(c:Call):Option (Nat×List SV):=
 match c.callee with
 |.value f=>match ev f with
  |.pv (.lit (.func (.func g) first cap))=>some (g,first.toList.map SV.lit++c.args.toList.map ev++cap.toList.map SV.lit)
  |.fn (.func g) first cap=>some (g,first++c.args.toList.map ev++cap)
  |_=>none
 |_=>none
def Qch:Op→Option Call
 |.call {callee:=.value f,args,argTypes}=>some {callee:=.value f,args,argTypes}
 |_=>none
def opP(cx:Cx)(ev:Operand→SV)(H:List Qa)(o:Oper)(K:Qr):Prop:=
 match Qch o.op with
 |some c=>match Qbh ev c with
  |some (s,args)=>Ke cx.P s args H K
  |none=>match target ev c with
   |none=>False
   |some (g,args)=>match cx.fns.lookup g with
    |none=>False
    |some _=>Z2 cx.P g args H K
 |none=>(sop cx.P cx.tab H ev o).holds H K
theorem Qen{M:Qc}{ρ:Env}(a:Array Value):∀(i:Nat) (v:Value) (x:SV),a.toList[i]? =some v→(a.toList.map SV.lit)[i]? =some x→Qe M ρ v x:=by intro i v x hv hx;simp only[List.getElem?_map,Option.map_eq_some_iff]at hx;obtain⟨u,hu,rfl⟩:=hx;rw[hv]at hu;cases hu;exact .pv (.lit _)
theorem Qa6{M:Qc}{ρ:Env}{v1 v2:List Value}{x1 x2:List SV}(h1:Yu M ρ v1 x1)(h2:Yu M ρ v2 x2):Yu M ρ (v1++v2) (x1++x2):=by
 refine⟨by simp[h1.1,h2.1],fun i v x hv hx=>?_⟩;rw[List.getElem?_append]at hv hx;rw[h1.1]at hv;split at hv
 ·rename_i h;rw[if_pos h]at hx;exact h1.2 i v x hv hx
 ·rename_i h;rw[if_neg h]at hx;exact h2.2 _ v x hv hx
theorem Qsc{cx:Cx}(hcx:cx.Ok){M:Qc}{ρ:Env}{H:List Qa}{w:World}{K:Qr}{ev:Operand→SV}{a:Act}(hm:Mem M ρ H w)(hev:∀x,Qe M ρ (a.eval x) (ev x)){o:Oper}
  (h:opP cx ev H o K):Vq cx.P o a w fun v w'=>∃x H' tch fg M' ρ',K x H' tch fg∧Qe M' ρ' v x∧Mem M' ρ' H' w'∧Fr M ρ H w M' ρ' H' w' H.length tch fg:=by
 unfold opP at h;cases hc:Qch o.op with
 |none=>simp only[hc]at h;exact .inl (Zd0 hcx.tab hm hev h)
 |some c=>
  simp only[hc]at h;have ho:o.op=.call c:=by
   unfold Qch at hc;split at hc
   ·rename_i e;cases hc;exact e
   ·cases hc
  have argsr:Yu M ρ (c.args.map a.eval).toList (c.args.toList.map ev):=by obtain⟨r1,r2⟩:=Qck hev c.args;exact⟨by simpa using r1,fun i v x hv hx=>r2 i v x (by rw[←Array.getElem?_toList];exact hv) hx⟩
  cases hy:Qbh ev c with
  |some q=>
   obtain⟨s,args⟩:=q;simp only[hy]at h;unfold Qbh at hy;split at hy
   ·rename_i f hcal;have hf:=hev f;split at hy
    ·rename_i s' e;rw[e]at hf;cases hy;generalize hv:a.eval f=vf at hf;cases hf with
     |yld _ p hp=>obtain⟨l,g,tmps,as,bd,w1,hrun,hround⟩:=h M ρ w p _ hm hp argsr;refine .inr (.inr ⟨l,g,tmps,as,bd,w1,?_,hround.mono fun e w' ⟨v,r,H',M',ρ',t,fg,he,hk,hs,hm',hf'⟩=>⟨v,he,r,H',t,fg,M',ρ',hk,hs,hm',hf'⟩⟩);simp only[Array.toArray_toList]at hrun;simpa[execOp,ho,resolve,hcal,Deferred.ofValue,hv,invoke]using hrun
    ·cases hy
   ·cases hy
  |none=>
   simp only[hy]at h;cases ht:target ev c with
   |none=>simp only[ht]at h
   |some q=>
    obtain⟨g,args⟩:=q;simp only[ht]at h;cases hfn:cx.fns.lookup g with
    |none=>simp only[hfn]at h
    |some fn=>
     simp only[hfn]at h;have callf:∀vs,(callFunc g vs).run cx.P w=.ok (.enter g vs) w:=fun vs=>(hcx.fn hfn).2 vs w;have key:∀(f:Operand) (first cap:Array Value) (x1 x2:List SV),c.callee=.value f→a.eval f=.func (.func g) first cap→Yu M ρ first.toList x1→Yu M ρ cap.toList x2→args=x1++c.args.toList.map ev++x2→
       Vq cx.P o a w fun v w'=>∃x H' tch fg M' ρ',K x H' tch fg∧Qe M' ρ' v x∧Mem M' ρ' H' w'∧Fr M ρ H w M' ρ' H' w' H.length tch fg:=by
      intro f first cap x1 x2 hcal hf h1 h2 hargs
      refine .inr (.inl ⟨g,first++c.args.map a.eval++cap,w,?_,?_⟩)
      ·simp[execOp,ho,resolve,hcal,Deferred.ofValue,hf,invoke,callf]
      ·have:=h M ρ w (first.toList++(c.args.map a.eval).toList++cap.toList) hm (by rw[hargs];exact Qa6 (Qa6 h1 argsr) h2);have e:(first.toList++(c.args.map a.eval).toList++cap.toList).toArray=first++c.args.map a.eval++cap:=by simp
       rw[e]at this;exact this.mono fun e w' ⟨v,r,H',M',ρ',t,fg,he,hk,hs,hm',hf'⟩=>⟨v,he,r,H',t,fg,M',ρ',hk,hs,hm',hf'⟩
     unfold target at ht;split at ht
     ·rename_i f hcal;have hf:=hev f;split at ht
      ·rename_i g' first cap e
       rw[e]at hf;cases ht;exact key f first cap _ _ hcal hf.Q1 ⟨by simp,Qen first⟩ ⟨by simp,Qen cap⟩ rfl
      ·rename_i g' first cap e
       rw[e]at hf;cases ht;generalize hv:a.eval f=vf at hf;cases hf with
       |fn _ fa fb _ _ ha hb hh hk=>exact key f fa fb _ _ hcal hv ⟨by simpa using ha,fun i v x hv hx=>hh i v x (by rw[←Array.getElem?_toList];exact hv) hx⟩ ⟨by simpa using hb,fun i v x hv hx=>hk i v x (by rw[←Array.getElem?_toList];exact hv) hx⟩ rfl
      ·cases ht
     ·cases ht
def Wo(fg:List Nat)(T:TT):TT:=match fg with
 |[]=>T
 |a::l=>T.map (SV.forget (a::l))
def Ye(n:Nat)(l acc:List Nat):List Nat:=match l with
 |[]=>acc
 |_=>l.filter (fun x=>decide (x<n)&& !acc.contains x)++acc
theorem Qa1{n:Nat}{l acc:List Nat}{x:Nat}(h:x∈acc):x∈Ye n l acc:=by
 unfold Ye;split
 ·exact h
 ·exact List.mem_append.2 (.inr h)
theorem Za8(n:Nat)(l acc:List Nat):Ye n l acc=l.filter (fun x=>decide (x<n)&& !acc.contains x)++acc:=by cases l<;>rfl
def TT.put(T:TT)(dst:Option Tmp)(x:SV):TT:=match dst with
 |some d=>T.set d x
 |none=>T
def Qv2(dst:Option Tmp)(er:List Nat):List Nat:=match dst with
 |some d=>d::er
 |none=>er
def St.put(s:St)(dst:Option Tmp)(x:SV):St:=match s with
 |⟨T,H,n0,tch,fg,marks,er⟩=>⟨T.put dst x,H,n0,tch,fg,marks,Qv2 dst er⟩
theorem St.Zt9(s:St)(d:Tmp)(x:SV):s.put (some d) x={s with T:=s.T.set d x,er:=d::s.er}:=by cases s;rfl
theorem St.Zub(s:St)(x:SV):s.put none x=s:=by cases s;rfl
def St.step(s:St)(dst:Option Tmp)(x:SV)(H:List Qa)(tch fg:List Nat):St:=match s with
 |⟨T,_,n0,tch0,fg0,marks,er⟩=>⟨(Wo fg T).put dst x,H,n0,Ye n0 tch tch0,Ye n0 fg fg0,marks,Qv2 dst er⟩
theorem St.step_eq(s:St)(dst:Option Tmp)(x:SV)(H:List Qa)(tch fg:List Nat):
  s.step dst x H tch fg=St.put {T:=Wo fg s.T,H:=H,n0:=s.n0,tch:=Ye s.n0 tch s.tch,fg:=Ye s.n0 fg s.fg,marks:=s.marks,er:=s.er} dst x:=by cases s;rfl
def Y2(nt:Nat):Option Tmp→Bool
 |some d=>Nat.blt d nt
 |none=>true
def Uo(s:St)(nt:Nat)(dst:Option Tmp)(H:List Qa)(fg:List Nat):Bool:=
 Y2 nt dst&&(fg.isEmpty||s.marks.all fun m=>!fg.contains m)&&Nat.ble s.n0 H.length
theorem Qgv{fg:List Nat}{T:TT}{t:Nat}{x:SV}(h:(Wo fg T).get t=some x):∃y,T.get t=some y∧(x=y.forget fg∨(fg=[]∧x=y)):=by
 unfold Wo at h;split at h
 ·exact⟨x,h,.inr ⟨rfl,rfl⟩⟩
 ·rw[TT.get_map]at h;simp only[Option.map_eq_some_iff]at h;obtain⟨y,hy,rfl⟩:=h;exact⟨y,hy,.inl rfl⟩
theorem Qe.after{M M':Qc}{ρ ρ':Env}{fg:List Nat}(hM:M.le M')(hρ:∀s,s∉fg→∀p,ρ s=some p→ρ' s=some p){v:Value}{y x:SV}(h:Qe M ρ v y)(hx:x=y.forget fg∨(fg=[]∧x=y)):Qe M' ρ' v x:=by
 rcases hx with rfl|⟨rfl,rfl⟩
 ·exact h.forget hM fun s p hs hp=>hρ s (by simpa using hs) p hp
 ·exact h.mono hM fun s p hp=>hρ s (by simp) p hp
theorem Fr.env{M M':Qc}{ρ ρ':Env}{H H':List Qa}{w w':World}{tch fg:List Nat}(hm:Mem M ρ H w)(hf:Fr M ρ H w M' ρ' H' w' H.length tch fg):∀s,s∉fg→∀p,ρ s=some p→ρ' s=some p:=fun s hs p hp=>by
 rcases Nat.lt_or_ge s H.length with h|h
 ·rw[hf.stay s h hs];exact hp
 ·rw[hm.fresh s h]at hp;cases hp
theorem Qae{n:Nat}{l acc:List Nat}{x:Nat}(hx:x<n)(h:x∈l):x∈Ye n l acc:=by
 rw[Za8];by_cases hc:x∈acc
 ·exact List.mem_append.2 (.inr hc)
 ·refine List.mem_append.2 (.inl (List.mem_filter.2 ⟨h,?_⟩));simp[hx,hc]
theorem Qsz{a:Act}{d t:Nat}{v:Value}(hd:d<a.tmps.size):(a.put (some d) v).tmps.getD t undef=if t=d then v else a.tmps.getD t undef:=by
 simp only[Act.put,Array.getD_eq_getD_getElem?,Array.getElem?_setIfInBounds];by_cases h:d=t
 ·subst h;simp[hd]
 ·rw[if_neg h,if_neg (fun e=>h e.symm)]
theorem Good.put{B:Nat→Value}{nt:Nat}{M:Qc}{ρ:Env}{s:St}{a:Act}{w:World}(hg:Good B nt M ρ s a w){dst:Option Tmp}(hd:Y2 nt dst=true){v:Value}{x:SV}(hx:Qe M ρ v x):Good B nt M ρ (s.put dst x) (a.put dst v) w:=by
 cases dst with
 |none=>rw[St.Zub];exact hg
 |some d=>
  have hd':d<nt:=by simpa[Y2]using hd
  rw[St.Zt9];refine⟨fun t y hy=>?_,by simp[Act.put,hg.sz],hg.mem,hg.df,hg.mks,hg.nle,fun t ht=>?_⟩;rw[Qsz (by rw[hg.sz];exact hd')];rcases TT.Jl _ _ _ _ _ hy with⟨e,rfl⟩|⟨e,hy⟩
  ·rw[if_pos e];exact hx
  ·rw[if_neg e];exact hg.tm t y hy
  ·have ht:t∉d::s.er:=ht;simp only[List.mem_cons,not_or]at ht;rw[Qsz (by rw[hg.sz];exact hd'),if_neg ht.1];exact hg.fix t ht.2
theorem Zp6{B:Nat→Value}{nt:Nat}{M M':Qc}{ρ ρ':Env}{s:St}{a:Act}{w w':World}(hg:Good B nt M ρ s a w){dst:Option Tmp}{v:Value}{x:SV}{H:List Qa}{tch fg:List Nat}
  (hok:Uo s nt dst H fg=true) (hx:Qe M' ρ' v x) (hm:Mem M' ρ' H w') (hf:Fr M ρ s.H w M' ρ' H w' s.H.length tch fg):
  Good B nt M' ρ' (s.step dst x H tch fg) (a.put dst v) w'∧Zm M ρ s w M' ρ' (s.step dst x H tch fg) w':=by
 simp only[Uo,Bool.and_eq_true]at hok;obtain⟨⟨h1,h2⟩,h3⟩:=hok;have h3:=Nat.le_of_ble_eq_true h3;have h4:=hg.nle;have h2:(s.marks.all fun m=>!fg.contains m)=true:=by
  rw[Bool.or_eq_true]at h2;rcases h2 with h|h
  ·rw[List.isEmpty_iff]at h;subst h;simp
  ·exact h
 have henv:=hf.env hg.mem;rw[St.step_eq];have hbase:Good B nt M' ρ' {T:=Wo fg s.T,H:=H,n0:=s.n0,tch:=Ye s.n0 tch s.tch,fg:=Ye s.n0 fg s.fg,marks:=s.marks,er:=s.er} a w':=by
  refine⟨fun t y hy=>?_,hg.sz,hm,⟨hg.df.1,fun i d m hd hmk=>?_⟩,hg.mks,h3,hg.fix⟩
  ·obtain⟨z,hz,hyz⟩:=Qgv hy;exact(hg.tm t z hz).after hf.imm henv hyz
  ·obtain⟨p,hp,e⟩:=hg.df.2 i d m hd hmk;have hmem:=List.mem_of_getElem? hmk;refine⟨p,henv m ?_ p hp,e⟩;have:=List.all_eq_true.1 h2 m hmem;simpa using this
 have hgoes:Zm M ρ s w M' ρ' {T:=Wo fg s.T,H:=H,n0:=s.n0,tch:=Ye s.n0 tch s.tch,fg:=Ye s.n0 fg s.fg,marks:=s.marks,er:=s.er} w':=
  ⟨hf.weaken h4 (fun x hx ht=>Qae hx ht) (fun x hx ht=>Qae hx ht),rfl,fun x hx=>Qa1 hx,fun x hx=>Qa1 hx⟩
 refine⟨hbase.put h1 hx,?_⟩;exact⟨hgoes.fr,hgoes.n0,hgoes.tch,hgoes.fg⟩
def St.adv(nt:Nat)(s:St)(dst:Option Tmp)(K:St→Prop):Qr:=fun x H t f=>
 (Y2 nt dst=true∧H=s.H∧t=[]∧f=[]∧K (s.put dst x))∨(Uo s nt dst H f=true∧K (s.step dst x H t f))
theorem Qsk{B:Nat→Value}{nt:Nat}{M M':Qc}{ρ ρ':Env}{s:St}{a:Act}{w w':World}(hg:Good B nt M ρ s a w){dst:Option Tmp}{v:Value}{x:SV}{H:List Qa}{tch fg:List Nat}{K:St→Prop}
  (h:s.adv nt dst K x H tch fg) (hx:Qe M' ρ' v x) (hm:Mem M' ρ' H w') (hf:Fr M ρ s.H w M' ρ' H w' s.H.length tch fg):
  ∃s',K s'∧s'.H=H∧Good B nt M' ρ' s' (a.put dst v) w'∧Zm M ρ s w M' ρ' s' w':=by
 rcases h with⟨hd,rfl,rfl,rfl,hk⟩|⟨hok,hk⟩
 ·have henv:=hf.env hg.mem;have hg':Good B nt M' ρ' s a w':=⟨fun t y hy=>(hg.tm t y hy).after hf.imm henv (.inr ⟨rfl,rfl⟩),hg.sz,hm,⟨hg.df.1,fun i d m hd hmk=>by obtain⟨p,hp,e⟩:=hg.df.2 i d m hd hmk;exact⟨p,henv m (by simp) p hp,e⟩⟩,hg.mks,hg.nle,hg.fix⟩;have hgo:Zm M ρ s w M' ρ' s w':=⟨hf.weaken hg.nle (fun x _ h=>by cases h) (fun x _ h=>by cases h),rfl,fun _ h=>h,fun _ h=>h⟩;exact⟨_,hk,rfl,hg'.put hd hx,⟨hgo.fr,hgo.n0,hgo.tch,hgo.fg⟩⟩
 ·obtain⟨g1,g2⟩:=Zp6 hg hok hx hm hf;exact⟨_,hk,by rw[St.step_eq];cases dst<;>rfl,g1,g2⟩
def opV(cx:Cx)(nt:Nat)(o:Oper)(s:St)(K:St→Prop):Prop:=
 Xl o.op=true∧opP cx s.ev s.H o (s.adv nt o.dst K)
def Qa0(ops:Array Oper)(j:Nat):Option Nat:=(ops[j]?).bind (·.dst)
def W3(ops:Array Oper)(o:Oper)(s:St)(run skip:St→Prop):Prop:=
 match o.guard with
 |none=>run s
 |some (j,want)=>match Qa0 ops j with
  |none=>False
  |some d=>match s.T.get d with
   |some (.pv (.lit (.bool b)))=>(b=want→run {s with T:=s.T.set d (.lit (.bool want))})∧(b= !want→skip {s with T:=s.T.set d (.lit (.bool !want))})
   |some (.pv (.lit (.tuple _)))=>skip s
   |_=>False
def Qaj(cx:Cx)(nt:Nat)(ops:Array Oper):List Oper→St→(St→Prop)→Prop
 |[],s,K=>K s
 |o::rest,s,K=>W3 ops o s (fun s'=>opV cx nt o s' fun s''=>Qaj cx nt ops rest s'' K) (fun s'=>Y2 nt o.dst=true∧Qaj cx nt ops rest (s'.put o.dst (.lit undef)) K)
theorem Good.Qzz{B:Nat→Value}{nt:Nat}{M:Qc}{ρ:Env}{s:St}{a:Act}{w:World}(hg:Good B nt M ρ s a w){d:Nat}{x:SV}(hx:Qe M ρ (a.tmps.getD d undef) x):Good B nt M ρ {s with T:=s.T.set d x} a w:=by
 refine⟨fun t y hy=>?_,hg.sz,hg.mem,hg.df,hg.mks,hg.nle,hg.fix⟩;rcases TT.Jl _ _ _ _ _ hy with⟨e,rfl⟩|⟨e,hy⟩
 ·rw[e];exact hx
 ·exact hg.tm t y hy
theorem Zr7{ops:Array Oper}{tmps:Array Value}{j d:Nat}{c:Array Value}(hs:Qa0 ops j=some d)(hv:tmps.getD d undef=.tuple c):yielded ops tmps j=none:=by
 unfold yielded;unfold Qa0 at hs;rw[hs];simp only[Option.bind_some];rw[Array.getD_eq_getD_getElem?]at hv;cases e:tmps[d]? with
 |none=>rfl
 |some v=>rw[e]at hv;simp at hv;subst hv;rfl
theorem Zeg{ops:Array Oper}{tmps:Array Value}{j d:Nat}{b:Bool}(hs:Qa0 ops j=some d)(hv:tmps.getD d undef=.bool b):yielded ops tmps j=some b:=by
 unfold yielded;unfold Qa0 at hs;rw[hs];simp only[Option.bind_some];rw[Array.getD_eq_getD_getElem?]at hv;cases e:tmps[d]? with
 |none=>rw[e]at hv;simp[undef]at hv
 |some v=>rw[e]at hv;simp at hv;subst hv;rfl
theorem Qh5{B:Nat→Value}{nt:Nat}{M:Qc}{ρ:Env}{s:St}{a:Act}{w:World}(hg:Good B nt M ρ s a w){ops:Array Oper}{o:Oper}{run skip:St→Prop}(h:W3 ops o s run skip):
  (Region.wanted o (yielded ops a.tmps)=true∧∃s',run s'∧Good B nt M ρ s' a w∧Zm M ρ s w M ρ s' w∧s'.H=s.H)∨
  (Region.wanted o (yielded ops a.tmps)=false∧∃s',skip s'∧Good B nt M ρ s' a w∧Zm M ρ s w M ρ s' w∧s'.H=s.H):=by
 unfold W3 at h;split at h
 ·rename_i e;exact .inl ⟨by simp[Region.wanted,e],s,h,hg,Zm.refl ..,rfl⟩
 ·rename_i j want e;split at h
  ·exact h.elim
  ·rename_i d hd;split at h
   ·rename_i b hb;have hv:=(hg.tm d _ hb).Q1;have hy:=Zeg hd hv;have hw:Region.wanted o (yielded ops a.tmps)=(b==want):=by simp only[Region.wanted,e,hy];cases b<;>cases want<;>rfl
    by_cases hbw:b=want
    ·subst hbw;refine .inl ⟨by rw[hw];simp,_,h.1 rfl,hg.Qzz (by rw[hv];exact .pv (.lit _)),⟨Fr.refl ..,rfl,fun _ h=>h,fun _ h=>h⟩,rfl⟩
    ·have hb':b= !want:=by cases b<;>cases want<;>simp_all
     refine .inr ⟨by rw[hw];simp[hbw],_,h.2 hb',hg.Qzz (by rw[hv,hb'];exact .pv (.lit _)),⟨Fr.refl ..,rfl,fun _ h=>h,fun _ h=>h⟩,rfl⟩
   ·rename_i c hb;have hv:=(hg.tm d _ hb).Q1;have hy:=Zr7 hd hv;exact .inr ⟨by simp[Region.wanted,e,hy],s,h,hg,Zm.refl ..,rfl⟩
   ·exact h.elim
theorem Qgg{cx:Cx}(hcx:cx.Ok){R:Option Nat}{B:Nat→Value}{nt:Nat}{ops:Array Oper}{Q:Exit→Act→World→Prop}{M0:Qc}{ρ0:Env}{s0:St}{w0:World}{K:St→Prop}
  (hQ:∀M ρ s a w,K s→Good B nt M ρ s a w→Zm M0 ρ0 s0 w0 M ρ s w→Q .normal a w):
  ∀(l:List Oper) (k:Nat) (s:St) (M:Qc) (ρ:Env) (a:Act) (w:World),(∀j,l[j]? =ops[k+j]?)→Qaj cx nt ops l s K→Good B nt M ρ s a w→Zm M0 ρ0 s0 w0 M ρ s w→
   wpOpsIn (FW R) 0 cx.P ops Q (List.range' k l.length) a w
 |[],k,s,M,ρ,a,w,_,h,hg,go=>hQ M ρ s a w h hg go
 |o::rest,k,s,M,ρ,a,w,hl,h,hg,go=>by
  have ho:ops[k]? =some o:=by simpa using(hl 0).symm
  have hl':∀j,rest[j]? =ops[k+1+j]? :=fun j=>by have:=hl (j+1);simpa[Nat.add_assoc,Nat.add_comm 1 j]using this
  simp only[List.length_cons,List.range'_succ,wpOpsIn,ho];rcases Qh5 hg h with⟨hw,s',⟨hd,hrun⟩,hg',go',hH⟩|⟨hw,s',⟨hdst,hskip⟩,hg',go',hH⟩
  ·rw[if_pos hw];refine(Qsc hcx hg'.mem (fun x=>hg'.ev x) hrun).wpIn hd ?_
   rintro v w' ⟨x,H',tch,fg,M',ρ',hadv,hx,hm,hf⟩
   obtain⟨_,hk,_,g1,g2⟩:=Qsk hg' hadv hx hm hf;exact Qgg hcx hQ rest (k+1) _ M' ρ' _ w' hl' hk g1 ((go.trans go').trans g2)
  ·rw[if_neg (by simp[hw])];refine⟨fun _ _=>trivial,?_⟩;refine Qgg hcx hQ rest (k+1) _ M ρ _ w hl' hskip (hg'.put hdst (.pv (.lit _))) ((go.trans go').trans ?_);exact⟨Fr.refl ..,rfl,fun _ h=>h,fun _ h=>h⟩
theorem Qt1{cx:Cx}(hcx:cx.Ok){R:Option Nat}{nt id:Nat}{ops:Array Oper}{Q:Exit→St→Prop}{s:St}(h:Qaj cx nt ops ops.toList s (Q .normal)):Q7 R cx.P nt (.region id ops false) Q s:=by
 intro B M ρ a w hg;refine wpIn_region ?_;have:=Qgg hcx (R:=R) (Q:=fun e a' w'=>∃M' ρ' s',Q e s'∧Good B nt M' ρ' s' a' w'∧Zm M ρ s w M' ρ' s' w') (K:=Q .normal) (fun M' ρ' s' a' w' hk g go=>⟨M',ρ',s',hk,g,go⟩)
  ops.toList 0 s M ρ a w (fun j=>by simp) h hg (Zm.refl ..)
 rw[Array.length_toList]at this;rwa[List.range_eq_range']
end Go.Sx
