/- Part P of the own logic: the evaluator of whole functions. Part Qa of the own logic: reading data, states by templates of data. And further parts. -/
import Derived.Test.YtpkbmngnolhopaaGreatDoorXSxL
set_option linter.unusedVariables false
set_option linter.unusedSimpArgs false
set_option linter.unnecessarySimpa false
open Nat renaming eq_of_beq_eq_true->C,beq->ZB,blt->ZM,lt_succ_of_le->ZR
open Bool renaming and_eq_true->ZA
open Option renaming map_eq_some_iff->ZC,map_some->ZO,bind_some->ZT
open List renaming mem_cons_of_mem->ZD,map_congr_left->ZE,all_eq_true->ZF,getElem?_eq_some_iff->ZG,mem_cons_self->ZH,mem_cons->ZI,getElem?_set->ZK,mem_filterMap->ZL,getElem?_eq_getElem->ZN,replicate->ZP,map_map->ZQ,length_cons->ZS,map_id->ZU,map_cons->ZV
open Option.some renaming injEq->ZJ
section
namespace Go.Sx
open Go
mutual
def SV.free(m:Nat):SV->Bool
 |.agg l=>Vh m l
 |.tup l=>Vh m l
 |.fn _ a b=>Vh m a&&Vh m b
 |.ptr s _ _ _=>ZM s m
 |.sl s _ _ _=>ZM s m
 |.mp s=>ZM s m
 |.yld s=>ZM s m
 |.slb s _ _ _ _=>ZM s m
 |.any=>true
 |.pv _=>true
def Vh(m:Nat):List SV->Bool
 |[]=>true
 |x::xs=>x.free m&&Vh m xs
end
theorem Qbn{a b:Nat}(h:ZM a b=true):a<b:=by rw[Nat.blt_eq]at h;exact h
theorem Qlw{m n s:Nat}(h:s<m):(Uv m n).contains s=false:=by simp[Uv];omega
mutual
theorem SV.Qc1{m n:Nat}:∀(x:SV),x.free m=true->x.forget (Uv m n)=x
 |.agg l,h=>by simp only[SV.free]at h;simp only[SV.forget,Qhu l h]
 |.tup l,h=>by simp only[SV.free]at h;simp only[SV.forget,Qhu l h]
 |.fn _ a b,h=>by simp only[SV.free,ZA]at h;simp only[SV.forget,Qhu a h.1,Qhu b h.2]
 |.ptr s _ _ _,h=>by simp only[SV.forget,Qlw (Qbn h)];exact if_neg (by simp)
 |.sl s _ _ _,h=>by simp only[SV.forget,Qlw (Qbn h)];exact if_neg (by simp)
 |.mp s,h=>by simp only[SV.forget,Qlw (Qbn h)];exact if_neg (by simp)
 |.yld s,h=>by simp only[SV.forget,Qlw (Qbn h)];exact if_neg (by simp)
 |.slb s _ _ _ _,h=>by simp only[SV.forget,Qlw (Qbn h)];exact if_neg (by simp)
 |.any,h=>rfl
 |.pv _,h=>rfl
theorem Qhu{m n:Nat}:∀(l:List SV),Vh m l=true->J9 (Uv m n) l=l
 |[],h=>rfl
 |x::xs,h=>by simp only[Vh,ZA]at h;simp only[J9,SV.Qc1 x h.1,Qhu xs h.2]
end
def Qb.free(m:Nat):Qb->Bool
 |.mix _ _ rows=>rows.all (Vh m)
 |.tlnk _ _ _ _ _ x=>x.free m
 |.nest _ _ _ _ q=>match q with
  |some x=>x.2.free m
  |none=>true
 |.map es _=>es.all fun e=>e.2.1.free m
 |.loop _=>false
 |.mit _ _ _=>false
 |_=>true
theorem Qb.Qc1{m n:Nat}(o:Qb)(h:o.free m=true):o.forget (Uv m n)=o:=by
 cases o with
 |mix ty sz rows=>
  simp only[Qb.free,ZF]at h;simp only[Qb.forget,Qb.mix.injEq,true_and];induction rows with
  |nil=>rfl
  |cons r rs ih=>simp only[ZV,List.cons.injEq];refine⟨?_,ih fun x hx=>h x (ZD _ hx)⟩;rw[<-Qr4];exact Qhu r (h r ZH)
 |tlnk ty row l r c x=>simp only[Qb.free]at h;simp only[Qb.forget,SV.Qc1 x h]
 |nest ty ity row ll q=>
  cases q with
  |none=>rfl
  |some x=>simp only[Qb.free]at h;simp only[Qb.forget,ZO,SV.Qc1 _ h]
 |map es c=>
  simp only[Qb.free,ZF]at h;simp only[Qb.forget,Qb.map.injEq,and_true];induction es with
  |nil=>rfl
  |cons e es ih=>simp only[ZV,List.cons.injEq];refine⟨?_,ih fun x hx=>h x (ZD _ hx)⟩;rw[SV.Qc1 _ (h e ZH)]
 |loop l=>cases h
 |mit _ _ _=>cases h
 |_=>rfl
def restore(t:List Nat):Nat->List Qb->List Qb->List Qb
 |_,[],_=>[]
 |i,o::H,H'=>(bif t.contains i then H'.headD .dead else o)::restore t (i+1) H H'.tail
theorem Zlv(t:List Nat):∀(H:List Qb) (i:Nat) (H':List Qb) (s:Nat),H.length<=H'.length->(restore t i H H')[s]? =if s<H.length then(if t.contains (i+s)then H'[s]? else H[s]?)else none
 |[],i,H',s,_=>by simp[restore]
 |o::H,i,[],s,h=>by simp at h
 |o::H,i,o'::H',s,h=>by
  cases s with
  |zero=>simp only[restore,List.getElem?_cons_zero,ZS,Nat.zero_lt_succ,if_true,Nat.add_zero,List.headD_cons];cases t.contains i<;>rfl
  |succ s=>simp only[restore,List.getElem?_cons_succ,List.tail_cons,ZS,Nat.succ_lt_succ_iff];rw[Zlv t H (i+1) H' s (by simpa using h)];rw[show i+1+s=i+(s+1)by omega]
theorem Ze0(t:List Nat):∀(H:List Qb) (i:Nat) (H':List Qb),(restore t i H H').length=H.length
 |[],i,H'=>rfl
 |o::H,i,H'=>by simp[restore,Ze0 t H]
def Qaw(t:List Nat)(H H':List Qb):List Qb:=match t with
 |[]=>H
 |_=>restore t 0 H H'
theorem Zkg(t:List Nat)(H H':List Qb)(s:Nat)(h:H.length<=H'.length):(Qaw t H H')[s]? =if s<H.length then(if t.contains s then H'[s]? else H[s]?)else none:=by
 unfold Qaw;split
 ·split
  ·simp
  ·rename_i h;simp[Nat.le_of_not_lt h]
 ·rw[Zlv _ _ _ _ _ h];simp
theorem Zt2(t:List Nat)(H H':List Qb):(Qaw t H H').length=H.length:=by
 unfold Qaw;split
 ·rfl
 ·exact Ze0 _ _ _ _
theorem Ynd{M M':Qd}{U U':Env}{H H':List Qb}{w w':World}{t:List Nat}(hm:Mem M U H w)(hm':Mem M' U' H' w')(hf:Fr M U H w M' U' H' w' H.length t [])
  (hlen:H.length<=H'.length) (hobj:∀s∈t,∀o,H'[s]? =some o->s<H.length->o.free H.length=true):
  Mem (M'.sealing U' H' H.length w') (U'.cut H.length) (Qaw t H H') w'∧Fr M U H w (M'.sealing U' H' H.length w') (U'.cut H.length) (Qaw t H H') w' H.length t []:=by
 have hb:=Qhv hm' H.length;have hsl:=Qd.Ws M' U' H' H.length w';have hc:∀s,s<H.length->U'.cut H.length s=U' s:=fun s hs=>by simp[Env.cut,hs]
 have hst:∀s,s<H.length->U' s=U s:=fun s hs=>hf.stay s hs (by simp);have hle:U.le (U'.cut H.length):=fun s p hp=>by
  rcases Nat.lt_or_ge s H.length with h'|h'
  ·rw[hc s h',hst s h'];exact hp
  ·rw[hm.fresh s h']at hp;cases hp
 have hget:∀(s:Nat) (o:Qb),(Qaw t H H')[s]? =some o->s<H.length∧((s∈t∧H'[s]? =some o)∨(s∉t∧H[s]? =some o)):=fun s o ho=>by
  rw[Zkg _ _ _ _ hlen]at ho;split at ho
  ·rename_i h1;split at ho
   ·rename_i h2;exact⟨h1,.inl ⟨by simpa using h2,ho⟩⟩
   ·rename_i h2;exact⟨h1,.inr ⟨by simpa using h2,ho⟩⟩
  ·cases ho
 have hlive:∀(s:Nat) (o:Qb),(Qaw t H H')[s]? =some o->o.live=true->∃o',H'[s]? =some o'∧o'.live=true:=fun s o ho hl=>by
  obtain⟨h1,⟨_,h2⟩|⟨h3,h2⟩⟩:=hget s o ho
  ·exact⟨o,h2,hl⟩
  ·exact(hf.keep s o h1 h3 h2 hl).1
 have rl:∀o:Qb,o.Km=true->o.live=true:=fun o ho=>by cases o<;>simp_all [Qb.Km,Qb.live]
 refine⟨?_,?_⟩
 ·refine⟨fun b o hb'=>?_,fun s o ho=>?_,fun s o p b ho hl hp hb=>?_,fun s s' o o' p p' b ho ho' hl hl' hp hp' hbk hbk'=>?_,fun s hs=>?_,fun s o p b ho hl hp hb=>?_⟩
  ·cases e:M' b with
   |some o'=>rw[hsl b o' e]at hb';cases hb';exact hm'.imm b _ e
   |none=>exact(Qd.Kl e hb').2
  ·obtain⟨h1,⟨h3,h2⟩|⟨h3,h2⟩⟩:=hget s o ho
   ·have:=(hm'.own s o h2).forget hsl hb (hc s h1) (fun _ _ _ _=>rfl);rwa[Qb.Qc1 o (hobj s h3 o h2 h1)]at this
   ·by_cases hl:o.live=true
    ·refine(hm.own s o h2).mono (Qd.le_trans hf.imm hsl) hle ((hc s h1).trans (hst s h1)) fun p b hp hb=>?_;exact((hf.keep s o h1 h3 h2 hl).2 p hp).2 b hb
    ·cases o<;>first|trivial|exact absurd rfl hl
  ·obtain⟨h1,_⟩:=hget s o ho;obtain⟨o',h2,h3⟩:=hlive s o ho hl;rw[hc s h1]at hp;have h0:=hm'.seps s o' p b h2 h3 hp hb;cases e:M'.sealing U' H' H.length w' b with
   |none=>rfl
   |some q=>obtain⟨⟨s2,o2,p2,k1,k2,k3,k4,k5⟩,_⟩:=Qd.Kl h0 e;have:=hm'.diss s s2 o' o2 p p2 b h2 k2 h3 (rl o2 k3) hp k4 hb (.inl k5);omega
  ·obtain⟨h1,_⟩:=hget s o ho;obtain⟨k1,_⟩:=hget s' o' ho';obtain⟨o2,h2,h3⟩:=hlive s o ho hl;obtain⟨o3,k2,k3⟩:=hlive s' o' ho' hl';rw[hc s h1]at hp;rw[hc s' k1]at hp';exact hm'.diss s s' o2 o3 p p' b h2 k2 h3 k3 hp hp' hbk hbk'
  ·rw[Zt2]at hs;simp[Env.cut,Nat.not_lt.2 hs]
  ·obtain⟨h1,_⟩:=hget s o ho;obtain⟨o',h2,h3⟩:=hlive s o ho hl;rw[hc s h1]at hp;exact hm'.lts s o' p b h2 h3 hp hb
 ·refine⟨Qd.le_trans hf.imm hsl,fun b o h0 h1=>?_,fun b hb'=>?_,hf.same,hf.grow,fun s o hs hx ho hl=>?_,fun s hs hx=>?_,hf.io⟩
  ·cases e:M' b with
   |some o'=>exact hf.new b o' h0 e
   |none=>obtain⟨⟨s2,o2,p2,k1,k2,k3,k4,k5⟩,_⟩:=Qd.Kl e h1;exact hf.own b ⟨s2,o2,p2,k2,rl o2 k3,k4,.inl k5⟩
  ·obtain⟨s,o,p,h1,h2,h3,h4⟩:=hb';obtain⟨k1,_⟩:=hget s o h1;obtain⟨o',k2,k3⟩:=hlive s o h1 h2;rw[hc s k1]at h3;exact hf.own b ⟨s,o',p,k2,k3,h3,h4⟩
  ·refine⟨⟨o,?_,hl⟩,fun p hp=>?_⟩
   ·rw[Zkg _ _ _ _ hlen,if_pos hs,if_neg (by simpa using hx)];exact ho
   ·obtain⟨_,h3⟩:=hf.keep s o hs hx ho hl;obtain⟨k1,k2⟩:=h3 p hp;exact⟨by rw[hc s hs];exact k1,k2⟩
  ·rw[hc s hs];exact hst s hs
def Qmh(H:List Qb)(n k:Nat)(x:SV):Option SV:=match x.free n with
 |true=>some x
 |false=>(frz H n k x).map .pv
def Qk9(H:List Qb)(n k:Nat):List SV->Option (List SV)
 |[]=>some []
 |x::l=>match Qmh H n k x,Qk9 H n k l with
  |some y,some ys=>some (y::ys)
  |_,_=>none
def Qm3(H:List Qb)(n k:Nat)(x:SV):Option SV:=match x.free n with
 |true=>some x
 |false=>match x with
  |.tup l=>(Qk9 H n k l).map .tup
  |x=>(frz H n k x).map .pv
theorem Qy9{M:Qd}{U:Env}{H:List Qb}{w:World}{n k:Nat}(hm:Mem M U H w){x y:SV}{v:Value}(h:Qmh H n k x=some y)(hr:Qf M U v x):Qf (M.sealing U H n w) (U.cut n) v y:=by
 unfold Qmh at h;split at h
 ·rename_i e;cases h;have:=hr.forget (Qd.Ws M U H n w) (Qhv hm n);rwa[SV.Qc1 x e]at this
 ·simp only[ZC]at h;obtain⟨p,hp,rfl⟩:=h;exact .pv (Ysh hm k x p v hp hr)
theorem Zle{M:Qd}{U:Env}{H:List Qb}{w:World}{n k:Nat}(hm:Mem M U H w):∀{l l':List SV},Qk9 H n k l=some l'->l'.length=l.length∧
  ∀(i:Nat) (v:Value) (y:SV),l'[i]? =some y->(∀x,l[i]? =some x->Qf M U v x)->Qf (M.sealing U H n w) (U.cut n) v y
 |[],l',h=>by simp[Qk9]at h;subst h;simp
 |x::l,l',h=>by
  simp only[Qk9]at h;split at h
  ·rename_i y ys h1 h2;cases h;obtain⟨g1,g2⟩:=Zle hm h2;refine⟨by simp[g1],fun i v z hz hx=>?_⟩;cases i with
   |zero=>simp at hz;subst hz;exact Qy9 hm h1 (hx x rfl)
   |succ i=>simp at hz;exact g2 i v z hz fun x' hx'=>hx x' (by simpa using hx')
  ·cases h
theorem Ydy{M:Qd}{U:Env}{H:List Qb}{w:World}{n k:Nat}(hm:Mem M U H w){x y:SV}{v:Value}(h:Qm3 H n k x=some y)(hr:Qf M U v x):Qf (M.sealing U H n w) (U.cut n) v y:=by
 by_cases e:x.free n=true
 ·exact Qy9 (k:=k) hm (by simp only[Qm3,e]at h;simp only[Qmh,e];exact h) hr
 ·have e:x.free n=false:=by simpa using e
  simp only[Qm3,e]at h;split at h
  ·rename_i l;simp only[ZC]at h;obtain⟨l',hl',rfl⟩:=h;obtain⟨g1,g2⟩:=Zle hm hl';cases hr with
   |tup cs _ hl hrep=>exact .tup cs l' (by rw[g1];exact hl) fun i v y hv hy=>g2 i v y hy fun x hx=>hrep i v x hv hx
  ·exact Qy9 (k:=k) hm (by simp only[Qmh,e];exact h) hr
def Left(H:List Qb)(K:Qv)(r:SV)(H':List Qb)(t g:List Nat):Prop:=
 (g=[]∧H.length<=H'.length∧(∀s∈t,∀o,H'[s]? =some o->s<H.length->o.free H.length=true)∧∃r' k,Qm3 H' H.length k r=some r'∧K r' (Qaw t H H') t [])∨K r H' t g
theorem Xw.leave{P:Program}{f:FuncId}{args:List SV}{H:List Qb}{K:Qv}(h:Xw P f args H fun r H' t g=>Left H K r H' t g):Xw P f args H K:=by
 intro M U w vs hm hr;refine(h M U w vs hm hr).mono ?_
 rintro e w' ⟨v,r,H',M',U',t,g,he,hk,hs,hm',hf⟩
 refine hk.elim (fun hk=>?_) (fun hk=>⟨v,_,_,M',U',t,g,he,hk,hs,hm',hf⟩);obtain⟨rfl,hlen,hobj,r',k,hfr,hk⟩:=hk;obtain⟨g1,g2⟩:=Ynd hm hm' hf hlen hobj;exact⟨v,r',_,_,_,t,[],he,hk,Ydy hm' hfr hs,g1,g2⟩
structure Ext where
 sum:Nat->List SV->List Qb->Option (SV×List Qb×List Nat×List Nat)
 guess:Nat->List SV->List SV
 still:Nat->Bool
structure Ext.Ok (cx:Cx) (ext:Ext):Prop where
 ok:∀g args H r H' t f,ext.sum g args H=some (r,H',t,f)->(∃fn,cx.fns.lookup g=some fn)∧Xw cx.P g args H fun x h u v=>x=r∧h=H'∧u=t∧v=f
def Qol(n:Nat)(H':List Qb):List Nat->Bool
 |[]=>true
 |s::t=>(match H'[s]? with
  |some o=>o.free n
  |none=>true)&&Qol n H' t
def isReady:LoopState->Bool
 |.ready=>true
 |_=>false
def Zdp:LoopState->Bool
 |.busy=>false
 |_=>true
theorem Qc7{cx:Cx}{s:St}:∀(rs:List ResultVar) (K K':List SV->Prop),(∀l,K l->K' l)->U8 cx s rs K->U8 cx s rs K'
 |[],K,K',hk,h=>hk _ h
 |.tmp t::rs,K,K',hk,h=>Qc7 rs _ _ (fun l=>hk _) h
 |.cell a t::rs,K,K',hk,h=>Qo.Qbk (fun x _ _ _ h=>Qc7 rs _ _ (fun l=>hk _) h) h
theorem Zge{n:Nat}{H':List Qb}:∀{t:List Nat},Qol n H' t=true->∀s∈t,∀o,H'[s]? =some o->o.free n=true
 |[],_,s,hs,_,_=>by cases hs
 |x::t,h,s,hs,o,ho=>by
  simp only[Qol,ZA]at h;rcases ZI.1 hs with rfl|hs
  ·have:=h.1;simpa[ho]using this
  ·exact Zge h.2 s hs o ho
theorem Zm5{s:LoopState}(h:isReady s=true):s=.ready:=by cases s<;>first|rfl|cases h
theorem Zxa{s:LoopState}(h:Zdp s=true):s≠.busy:=by intro e;subst e;cases h
theorem Qlb{l:List Nat}{x:Nat}(h:(!l.contains x)=true):x∉l:=by simpa using h
end Go.Sx
end
section
namespace Go.Sx
open Go
mutual
def SV.same:SV->SV->Bool
 |.ptr a b c d,.ptr a' b' c' d'=>ZB a a'&&(ZB b b'&&(ZB c c'&&ZB d d'))
 |.sl a b c d,.sl a' b' c' d'=>ZB a a'&&(ZB b b'&&(ZB c c'&&ZB d d'))
 |.mp a,.mp b=>ZB a b
 |.yld a,.yld b=>ZB a b
 |.fn (.func f) a b,.fn (.func f') a' b'=>ZB f f'&&(Qhp a a'&&Qhp b b')
 |.pv (.lit (.func (.func f) a b)),.pv (.lit (.func (.func f') a' b'))=>ZB f f'&&(a.isEmpty&&(b.isEmpty&&(a'.isEmpty&&b'.isEmpty)))
 |.pv (.lit (.slice none a b)),.pv (.lit (.slice none a' b'))=>ZB a a'&&ZB b b'
 |.pv (.lit (.map none)),.pv (.lit (.map none))=>true
 |.any,.any=>true
 |.agg a,.agg b=>Qhp a b
 |_,_=>false
def Qhp:List SV->List SV->Bool
 |[],[]=>true
 |x::l,y::m=>x.same y&&Qhp l m
 |_,_=>false
end
mutual
theorem SV.Zad:∀(x y:SV),x.same y=true->x=y:=fun x y h=>by
 unfold SV.same at h;split at h
 ·simp only[ZA]at h;rw[C h.1,C h.2.1,C h.2.2.1,C h.2.2.2]
 ·simp only[ZA]at h;rw[C h.1,C h.2.1,C h.2.2.1,C h.2.2.2]
 ·rw[C h]
 ·rw[C h]
 ·simp only[ZA]at h;rw[C h.1,Qn8 _ _ h.2.1,Qn8 _ _ h.2.2]
 ·simp only[ZA,Array.isEmpty_iff]at h;rw[C h.1,h.2.1,h.2.2.1,h.2.2.2.1,h.2.2.2.2]
 ·simp only[ZA]at h;rw[C h.1,C h.2]
 ·rfl
 ·rfl
 ·rw[Qn8 _ _ h]
 ·cases h
theorem Qn8:∀(x y:List SV),Qhp x y=true->x=y
 |[],[],_=>rfl
 |x::l,y::m,h=>by simp only[Qhp,ZA]at h;rw[SV.Zad x y h.1,Qn8 l m h.2]
 |[],_::_,h=>by cases h
 |_::_,[],h=>by cases h
end
def Ql0:Value->Value->Bool
 |.func (.func f) a b,.func (.func f') a' b'=>ZB f f'&&(a.isEmpty&&(b.isEmpty&&(a'.isEmpty&&b'.isEmpty)))
 |.string a,.string b=>decide (a.data=b.data)
 |.int k a,.int k' b=>decide (k=k')&&decide (a=b)
 |.bool a,.bool b=>decide (a=b)
 |_,_=>false
theorem Qv9{x y:Value}(h:Ql0 x y=true):x=y:=by
 unfold Ql0 at h;split at h
 ·simp only[ZA,Array.isEmpty_iff]at h;rw[C h.1,h.2.1,h.2.2.1,h.2.2.2.1,h.2.2.2.2]
 ·rename_i a b;have:=of_decide_eq_true h;cases a;cases b;simp only at this;rw[this]
 ·rw[ZA]at h;rw[of_decide_eq_true h.1,of_decide_eq_true h.2]
 ·rw[of_decide_eq_true h]
 ·cases h
def Qpk:List Value->List Value->Bool
 |[],[]=>true
 |x::l,y::m=>Ql0 x y&&Qpk l m
 |_,_=>false
theorem Zjt:∀{x y:List Value},Qpk x y=true->x=y
 |[],[],_=>rfl
 |x::l,y::m,h=>by simp only[Qpk,ZA]at h;rw[Qv9 h.1,Zjt h.2]
 |[],_::_,h=>by cases h
 |_::_,[],h=>by cases h
def Qw1:SV->SV->Bool
 |.pv (.lit (.agg a)),.pv (.lit (.agg b))=>Qpk a.toList b.toList
 |.pv (.lit x),.pv (.lit y)=>Ql0 x y
 |x,y=>x.same y
theorem Zwo{x y:SV}(h:Qw1 x y=true):x=y:=by
 unfold Qw1 at h;split at h
 ·rw[Array.toList_inj.1 (Zjt h)]
 ·rw[Qv9 h]
 ·exact SV.Zad _ _ h
def Qrt:List (Value×SV×Nat)->List (Value×SV×Nat)->Bool
 |[],[]=>true
 |x::l,y::m=>Ql0 x.1 y.1&&(Qw1 x.2.1 y.2.1&&(ZB x.2.2 y.2.2&&Qrt l m))
 |_,_=>false
theorem Zd1:∀{x y:List (Value×SV×Nat)},Qrt x y=true->x=y
 |[],[],_=>rfl
 |(a,b,c)::l,(a',b',c')::m,h=>by simp only[Qrt,ZA]at h;rw[Qv9 h.1,Zwo h.2.1,C h.2.2.1,Zd1 h.2.2.2]
 |[],_::_,h=>by cases h
 |_::_,[],h=>by cases h
def Qk4:Qb->Qb->Bool
 |.map es c,.map es' c'=>ZB c c'&&Qrt es es'
 |_,_=>false
theorem Zlk{x y:Qb}(h:Qk4 x y=true):x=y:=by
 unfold Qk4 at h;split at h
 ·rw[ZA]at h;rw[C h.1,Zd1 h.2]
 ·cases h
inductive Lk where
 |stat (x:SV)
 |own (s:Nat)
def Qf7(H:List Qb):Lk->SV
 |.stat x=>x
 |.own s=>match H[s]? with
  |some o=>match o.szl with
   |some sz=>.sl s sz 0 o.len
   |none=>.any
  |none=>.any
def Qfy(H:List Qb)(n:Nat)(x:SV):Lk->Option Bool
 |.stat y=>match x.same y&&y.free n with
  |true=>some true
  |false=>none
 |.own s=>match x with
  |.sl s' sz st m=>match ZB s' s&&(ZB st 0&&ZM s n)with
   |false=>none
   |true=>match H[s]? with
    |none=>none
    |some o=>match o.szl with
     |none=>none
     |some sz'=>match ZB sz' sz with
      |true=>some (decide (m=o.len))
      |false=>none
  |_=>none
abbrev PL:=List (Nat×Qe)
def Ji:PL->Type
 |[]=>Unit
 |[p]=>p.2.El
 |p::p'::l=>p.2.El×Ji (p'::l)
def Qaj:(l:PL)->Ji l->List SV->List SV
 |[],_,r=>r
 |[p],x,r=>r.set p.1 (p.2.sv x)
 |p::p'::l,x,r=>Qaj (p'::l) x.2 (r.set p.1 (p.2.sv x.1))
def Qc8(H:List Qb):List (Nat×Lk)->List SV->List SV
 |[],r=>r
 |q::l,r=>Qc8 H l (r.set q.1 (Qf7 H q.2))
def Qfi(H:List Qb)(n:Nat)(r:List SV):(l:PL)->Option (Bool×Ji l)
 |[]=>some (true,())
 |[p]=>match r[p.1]? with
  |some x=>rdA H n p.2 x
  |none=>none
 |p::p'::l=>match r[p.1]? with
  |none=>none
  |some x=>match rdA H n p.2 x with
   |none=>none
   |some a=>match Qfi H n r (p'::l)with
    |none=>none
    |some b=>some (a.1&&b.1,(a.2,b.2))
def Qis(H:List Qb)(n:Nat)(r:List SV):List (Nat×Lk)->Option Bool
 |[]=>some true
 |q::l=>match r[q.1]? with
  |none=>none
  |some x=>match Qfy H n x q.2 with
   |none=>none
   |some c=>match Qis H n r l with
    |none=>none
    |some d=>some (c&&d)
def Qkk:Option Code->Option Code->Bool
 |none,none=>true
 |some .ret,some .ret=>true
 |some (.exit a),some (.exit b)=>ZB a b
 |_,_=>false
theorem Ztm{a b:Option Code}(h:Qkk a b=true):a=b:=by unfold Qkk at h;split at h<;>first|rfl|(rw[C h];done)|cases h
inductive Qq where
 |slot (t:Nat) (a:Qe)
 |vec (s ty:Nat) (row:List Ty)
 |one (s ty:Nat) (row:List Ty)
 |mix (s ty sz:Nat) (dat:PL) (lnk:List (Nat×Lk))
 |map (s:Nat) (k v:Qe)
 |iter (s:Nat)
 |over (s:Nat) (pd:Option Code)
 |nest (s ty ity:Nat) (row:List Ty)
 |fix (s:Nat) (es:List (Value×SV×Nat)) (c:Nat)
 |mit (s m:Nat)
def Qq.El:Qq->Type
 |.slot _ a=>a.El
 |.vec _ _ row=>List (Qj row)
 |.one _ _ row=>Qj row
 |.mix _ _ _ dat _=>Ji dat
 |.map _ k v=>List (k.El×v.El)
 |.iter _=>ByteArray×Nat
 |.over _ _=>Unit
 |.nest _ _ _ row=>List (List (Qj row))
 |.fix _ _ _=>Unit
 |.mit _ _=>Nat×List Nat
def Yi:List Qq->Type
 |[]=>Unit
 |[c]=>c.El
 |c::c'::l=>c.El×Yi (c'::l)
structure Qk where
 cells:List Qq
 owns:List (Nat×Lk)
abbrev Qk.El(τ:Qk):Type:=Yi τ.cells
def Qq.obj(H:List Qb):(c:Qq)->c.El->Qb
 |.slot _ _,_=>.dead
 |.vec _ ty row,x=>.tvec ty row x
 |.one _ ty row,x=>.vec ty row.length [Zs row x]
 |.mix _ ty sz dat lnk,x=>.mix ty sz [Qc8 H lnk (Qaj dat x (ZP sz .any))]
 |.map _ k v,x=>.tmap k v x
 |.iter _,x=>.iter x.1 x.2
 |.over _ pd,_=>.over .done pd
 |.nest _ ty ity row,x=>.nest ty ity row x none
 |.fix _ es c,_=>.map es c
 |.mit _ m,x=>.mit (some m) x.1 x.2
def Qq.id?:Qq->Option Nat
 |.slot ..=>none
 |.vec s ..=>some s
 |.one s ..=>some s
 |.mix s ..=>some s
 |.map s ..=>some s
 |.iter s=>some s
 |.over s _=>some s
 |.nest s _ _ _=>some s
 |.fix s _ _=>some s
 |.mit s _=>some s
def Qq.put(H0:List Qb)(c:Qq)(x:c.El)(p:TT×List Qb):TT×List Qb:=match c,x,p with
 |.slot t a,x,(T,H)=>(T.set t (a.sv x),H)
 |.vec s ty row,x,(T,H)=>(T,H.set s (.tvec ty row x))
 |.one s ty row,x,(T,H)=>(T,H.set s (.vec ty row.length [Zs row x]))
 |.mix s ty sz dat lnk,x,(T,H)=>(T,H.set s (.mix ty sz [Qc8 H0 lnk (Qaj dat x (ZP sz .any))]))
 |.map s k v,x,(T,H)=>(T,H.set s (.tmap k v x))
 |.iter s,x,(T,H)=>(T,H.set s (.iter x.1 x.2))
 |.over s pd,x,(T,H)=>(T,H.set s (.over .done pd))
 |.nest s ty ity row,x,(T,H)=>(T,H.set s (.nest ty ity row x none))
 |.fix s es c,x,(T,H)=>(T,H.set s (.map es c))
 |.mit s m,x,(T,H)=>(T,H.set s (.mit (some m) x.1 x.2))
def putCells(H0:List Qb):(l:List Qq)->Yi l->TT×List Qb->TT×List Qb
 |[],_,p=>p
 |[c],x,p=>c.put H0 x p
 |c::c'::l,x,p=>putCells H0 (c'::l) x.2 (c.put H0 x.1 p)
def Qk0(H:List Qb):List (Nat×Lk)->TT->TT
 |[],T=>T
 |q::l,T=>Qk0 H l (T.set q.1 (Qf7 H q.2))
def Wu(mv:List Nat)(H:List Qb):List Qb:=match mv with
 |[]=>H
 |_=>H.map (Qb.forget mv)
def Qbi:List Nat->List Qb->List Qb
 |[],H=>H
 |i::l,H=>Qbi l (H.set i .dead)
def TT.drop:TT->List Nat->TT
 |T,[]=>T
 |T,d::D=>(T.set d .any).drop D
def Qk.st(τ:Qk)(D ids mv:List Nat)(b:St)(x:τ.El):St:=
 match putCells [] τ.cells x (.nil,Qbi ids (Wu mv b.H))with
 |(_,H1)=>match putCells H1 τ.cells x ((Uu mv b.T).drop D,Qbi ids (Wu mv b.H))with
  |(T,H)=>{T:=Qk0 H1 τ.owns T,H:=H,n0:=b.H.length,tch:=ids,fg:=mv,marks:=[],er:=D}
def Qa7:Qb->Option (Nat×Nat×List SV)
 |.vec ty sz [r]=>some (ty,sz,r.map .pv)
 |.mix ty sz [r]=>some (ty,sz,r)
 |.tvec ty row [x]=>some (ty,row.length,(Zs row x).map .pv)
 |_=>none
def Qf3(k v:Qe)(H:List Qb)(n:Nat):Nat->List Qr->Option (Bool×List (k.El×v.El))
 |_,[]=>some (true,[])
 |i,e::es=>match ZB e.2.2 i with
  |false=>none
  |true=>match k.Qcy (.lit e.1)with
   |none=>none
   |some a=>match rdA H n v e.2.1 with
    |none=>none
    |some b=>match Qf3 k v H n (i+1) es with
     |none=>none
     |some c=>some (b.1&&c.1,(a,b.2)::c.2)
def Qe.beq:Qe->Qe->Bool
 |.val t,.val t'=>t.beq t'
 |.agg r,.agg r'=>Ty.Qc0 r r'
 |_,_=>false
theorem Qe.beq_eq:∀(a b:Qe),a.beq b=true->a=b
 |.val t,.val t',h=>by rw[Ty.beq_eq t t' h]
 |.agg r,.agg r',h=>by rw[Ty.Qnq r r' h]
 |.val _,.agg _,h=>by cases h
 |.agg _,.val _,h=>by cases h
def Qva(k v k' v':Qe)(l:List (k.El×v.El)):(b:Bool)->(b=true->k=k'∧v=v')->Option (List (k'.El×v'.El))
 |true,h=>some ((h rfl).1▸(h rfl).2▸l)
 |false,_=>none
def Qmi(k v k' v':Qe)(l:List (k.El×v.El)):Option (List (k'.El×v'.El)):=Qva k v k' v' l (k.beq k'&&v.beq v') fun h=>by rw[ZA]at h;exact⟨Qe.beq_eq _ _ h.1,Qe.beq_eq _ _ h.2⟩
theorem Ypq{k v k' v':Qe}{l:List (k.El×v.El)}{l':List (k'.El×v'.El)}(h:Qmi k v k' v' l=some l'):∃(e:k=k') (e':v=v'),l'=e▸e'▸l:=by
 have:∀(b:Bool) (f:b=true->k=k'∧v=v'),Qva k v k' v' l b f=some l'->∃(e:k=k') (e':v=v'),l'=e▸e'▸l:=by
  intro b f h;cases b with
  |true=>simp only[Qva,ZJ]at h;exact⟨(f rfl).1,(f rfl).2,h.symm⟩
  |false=>cases h
 exact this _ _ h
def Qq.get(T:TT)(H:List Qb)(n:Nat):(c:Qq)->Option (Bool×c.El)
 |.slot t a=>match T.get t with
  |some x=>rdA H n a x
  |none=>none
 |.vec s ty row=>match H[s]? with
  |some (.tvec ty' row' l)=>match ZB ty' ty with
   |true=>match K5 row' row l with
    |some l=>some (true,l)
    |none=>none
   |false=>none
  |some (.vec ty' sz rows)=>match ZB ty' ty&&ZB sz row.length with
   |true=>match Wn (ofRow row) rows with
    |some l=>some (true,l)
    |none=>none
   |false=>none
  |some (.mix ty' sz rows)=>match ZB ty' ty&&ZB sz row.length with
   |true=>Qbb (Va H n row) rows
   |false=>none
  |_=>none
 |.one s ty row=>match H[s]? with
  |some o=>match Qa7 o with
   |some (ty',sz,r)=>match ZB ty' ty&&ZB sz row.length with
    |true=>Va H n row r
    |false=>none
   |none=>none
  |none=>none
 |.mix s ty sz dat lnk=>match H[s]? with
  |some o=>match Qa7 o with
   |some (ty',sz',r)=>match ZB ty' ty&&ZB sz' sz with
    |true=>match Qis H n r lnk with
     |some c=>match Qfi H n r dat with
      |some x=>some (c&&x.1,x.2)
      |none=>none
     |none=>none
    |false=>none
   |none=>none
  |none=>none
 |.map s k v=>match H[s]? with
  |some (.tmap k' v' l)=>match Qmi k' v' k v l with
   |some l=>some (true,l)
   |none=>none
  |some (.map es c)=>match ZB c es.length&&(k.scalar)with
   |true=>Qf3 k v H n 0 es
   |false=>none
  |_=>none
 |.iter s=>match H[s]? with
  |some (.iter b pos)=>some (true,(b,pos))
  |_=>none
 |.over s pd=>match H[s]? with
  |some (.over .done pd')=>match Qkk pd' pd with
   |true=>some (true,())
   |false=>none
  |_=>none
 |.nest s ty ity row=>match H[s]? with
  |some (.nest ty' ity' row' ll none)=>match ZB ty' ty&&ZB ity' ity with
   |true=>match Qq4 row' row ll with
    |some l=>some (true,l)
    |none=>none
   |false=>none
  |_=>none
 |.fix s es c=>match H[s]? with
  |some o'=>match Qk4 o' (.map es c)&&(Qb.map es c).free n with
   |true=>some (true,())
   |false=>none
  |none=>none
 |.mit s m=>match H[s]? with
  |some (.mit (some m') c sn)=>match ZB m' m&&ZM m n with
   |true=>some (true,(c,sn))
   |false=>none
  |_=>none
def Qrj(T:TT)(H:List Qb)(n:Nat):(l:List Qq)->Option (Bool×Yi l)
 |[]=>some (true,())
 |[c]=>c.get T H n
 |c::c'::l=>match c.get T H n with
  |none=>none
  |some x=>match Qrj T H n (c'::l)with
   |none=>none
   |some y=>some (x.1&&y.1,(x.2,y.2))
def Qoi(T:TT)(H:List Qb)(n:Nat):List (Nat×Lk)->Option Bool
 |[]=>some true
 |q::l=>match T.get q.1 with
  |none=>none
  |some x=>match Qfy H n x q.2 with
   |none=>none
   |some c=>match Qoi T H n l with
    |none=>none
    |some d=>some (c&&d)
def subset(l m:List Nat):Bool:=l.all fun x=>m.contains x
def Qk.read(τ:Qk)(n:Nat)(s:St):Option (Bool×τ.El):=match Qoi s.T s.H n τ.owns with
 |some c=>match Qrj s.T s.H n τ.cells with
  |some x=>some (c&&x.1,x.2)
  |none=>none
 |none=>none
def Lk.inn(ids:List Nat):Lk->Bool
 |.stat _=>true
 |.own s=>ids.contains s
def Qq.Zma:Qq->List (Nat×Lk)
 |.mix _ _ _ _ l=>l
 |_=>[]
def Qk.W7(τ:Qk)(ids:List Nat):Bool:=(τ.owns.all fun q=>q.2.inn (τ.cells.filterMap Qq.id?))&&((τ.cells.all fun c=>c.Zma.all fun q=>q.2.inn (τ.cells.filterMap Qq.id?))&&subset (τ.cells.filterMap Qq.id?) ids)
def Qq.Qz6:Qq->List Nat
 |.over s _=>[s]
 |_=>[]
def Qk.Qz6(τ:Qk):List Nat:=τ.cells.flatMap Qq.Qz6
def St.reads(s:St)(D ids mv:List Nat)(n:Nat):Bool:=subset s.er D&&(subset s.tch ids&&(subset s.fg mv&&(s.marks.isEmpty&&Nat.ble n s.H.length)))
end Go.Sx
end
section
namespace Go.Sx
open Go
mutual
theorem SV.Qcx(d:List Nat):∀(x:SV),(x.forget d).forget d=x.forget d
 |.agg l=>by simp only[SV.forget,Qk8 d l]
 |.tup l=>by simp only[SV.forget,Qk8 d l]
 |.fn _ a b=>by simp only[SV.forget,Qk8 d a,Qk8 d b]
 |.ptr s _ _ _=>by
  simp only[SV.forget];split
  ·rfl
  ·rename_i h;simp only[SV.forget,if_neg h]
 |.sl s _ _ _=>by
  simp only[SV.forget];split
  ·rfl
  ·rename_i h;simp only[SV.forget,if_neg h]
 |.mp s=>by
  simp only[SV.forget];split
  ·rfl
  ·rename_i h;simp only[SV.forget,if_neg h]
 |.yld s=>by
  simp only[SV.forget];split
  ·rfl
  ·rename_i h;simp only[SV.forget,if_neg h]
 |.slb s _ _ _ _=>by
  simp only[SV.forget];split
  ·rfl
  ·rename_i h;simp only[SV.forget,if_neg h]
 |.any=>rfl
 |.pv _=>rfl
theorem Qk8(d:List Nat):∀(l:List SV),J9 d (J9 d l)=J9 d l
 |[]=>rfl
 |x::xs=>by simp only[J9,SV.Qcx d x,Qk8 d xs]
end
mutual
theorem SV.Uc:∀(x:SV),x.forget []=x
 |.agg l=>by simp only[SV.forget,Qmd l]
 |.tup l=>by simp only[SV.forget,Qmd l]
 |.fn _ a b=>by simp only[SV.forget,Qmd a,Qmd b]
 |.ptr s _ _ _=>by simp[SV.forget]
 |.sl s _ _ _=>by simp[SV.forget]
 |.mp s=>by simp[SV.forget]
 |.yld s=>by simp[SV.forget]
 |.slb s _ _ _ _=>by simp[SV.forget]
 |.any=>rfl
 |.pv _=>rfl
theorem Qmd:∀(l:List SV),J9 [] l=l
 |[]=>rfl
 |x::xs=>by simp only[J9,SV.Uc x,Qmd xs]
end
theorem TT.map_id{f:SV->SV}(hf:∀x,f x=x):∀(T:TT),T.map f=T
 |.nil=>rfl
 |.node l v r=>by simp only[TT.map,TT.map_id hf l,TT.map_id hf r];cases v<;>simp[hf]
theorem Qs3{row:List Ty}{l:List (Qj row)}{r c:Nat}{x:SV}{f:SV->SV}(hf:∀p,f (.pv p)=.pv p){i j:Nat}{y:SV}(h:Wb row l r c (f x) i j=some y):
  ∃y0,Wb row l r c x i j=some y0∧y=f y0∧(y0=x∨∃p,y0=.pv p):=by
 unfold Wb at h⊢;simp only[ZC]at h⊢;obtain⟨z,hz,rfl⟩:=h;by_cases hc:i=r∧j=c
 ·simp only[if_pos hc];exact⟨x,⟨z,hz,rfl⟩,rfl,.inl rfl⟩
 ·simp only[if_neg hc];unfold Ys at hz;simp only[ZC]at hz;obtain⟨p,hp,rfl⟩:=hz;exact⟨.pv p,⟨.pv p,by rw[Ys,hp];rfl,rfl⟩,(hf p).symm,.inr ⟨p,rfl⟩⟩
theorem Qb.Uc(o:Qb):o.forget []=o:=by
 cases o with
 |mix ty sz rows=>
  simp only[Qb.forget,Qb.mix.injEq,true_and]
  conv=>rhs;rw[<-ZU rows]
  refine ZE fun r _=>?_
  conv=>rhs;rw[<-ZU r]
  exact ZE fun x _=>SV.Uc x
 |map es c=>
  simp only[Qb.forget,Qb.map.injEq,and_true]
  conv=>rhs;rw[<-ZU es]
  refine ZE fun e _=>?_;simp only[SV.Uc,id]
 |loop l=>simp only[Qb.forget,TT.map_id SV.Uc]
 |tlnk ty row l r c x=>simp only[Qb.forget,SV.Uc]
 |nest ty ity row ll q=>cases q with
  |none=>rfl
  |some x=>simp only[Qb.forget,ZO,SV.Uc]
 |mit m c s=>cases m<;>rfl
 |_=>rfl
theorem TT.Qz9{f:SV->SV}(hf:∀x,f (f x)=f x):∀(T:TT),(T.map f).map f=T.map f
 |.nil=>rfl
 |.node l v r=>by simp only[TT.map,TT.Qz9 hf l,TT.Qz9 hf r];cases v<;>simp[hf]
theorem Qb.Qcx(d:List Nat)(o:Qb):(o.forget d).forget d=o.forget d:=by
 cases o with
 |mix ty sz rows=>simp only[Qb.forget,ZQ,Qb.mix.injEq,true_and];refine ZE fun r _=>?_;simp only[Function.comp,ZQ];exact ZE fun x _=>SV.Qcx d x
 |map es c=>simp only[Qb.forget,ZQ,Qb.map.injEq,and_true];refine ZE fun e _=>?_;simp only[Function.comp,SV.Qcx]
 |loop l=>simp only[Qb.forget,TT.Qz9 (SV.Qcx d)]
 |tlnk ty row l r c x=>simp only[Qb.forget,SV.Qcx]
 |nest ty ity row ll q=>cases q with
  |none=>rfl
  |some x=>simp only[Qb.forget,ZO,SV.Qcx]
 |mit m c s=>
  cases m with
  |none=>rfl
  |some x=>
   simp only[Qb.forget,ZT,Qb.mit.injEq,and_true];cases h:d.contains x with
   |true=>rfl
   |false=>simp only[cond_false,ZT,h]
 |_=>rfl
structure Qpn (D ids mv:List Nat) (b:St) (M:Qd) (U:Env) (H:List Qb) (a:Act) (w:World):Prop where
 len:H.length=b.H.length
 slots:∀t y,t∉D->b.T.get t=some y->Qf M U (a.tmps.getD t undef) (y.forget mv)
 objs:∀(s:Nat) (o:Qb),s∉ids->b.H[s]? =some o->Q9 M U w s (o.forget mv)∧(o.live=true->∃o':Qb,H[s]? =some o'∧o'.live=true)
 back:∀(s:Nat) (o:Qb),s∉ids->H[s]? =some o->o.live=true->∃o0:Qb,b.H[s]? =some o0∧o0.live=true
theorem Qmg{M:Qd}{U:Env}{w:World}{s ty sz:Nat}{o:Qb}{r:List SV}(h:Qa7 o=some (ty,sz,r)):o.live=true∧o.Q5 =some sz∧o.len=1∧(Q9 M U w s o->Q9 M U w s (.mix ty sz [r])):=by
 unfold Qa7 at h;split at h
 ·cases h;exact⟨rfl,rfl,rfl,fun h=>h.Qte⟩
 ·cases h;exact⟨rfl,rfl,rfl,id⟩
 ·rename_i ty' row x;cases h;exact⟨rfl,rfl,rfl,fun h=>by have h:Q9 M U w s (.vec ty row.length [Zs row x]):=h;exact h.Qte⟩
 ·cases h
theorem Q9.Zl9{M M2:Qd}{U ρ2:Env}{w:World}{s ty sz:Nat}{r r':List SV}(hs:ρ2 s=U s)(hl:r'.length=sz)
  (hr:∀(j:Nat) (y:SV),r'[j]? =some y->y=.any∨∃x:SV,r[j]? =some x∧∀u,Qf M U u x->Qf M2 ρ2 u y) (h:Q9 M U w s (.mix ty sz [r])):Q9 M2 ρ2 w s (.mix ty sz [r']):=by
 rcases h with⟨h1,h2⟩|⟨p,h1,h2⟩
 ·cases h2
 ·refine .inr ⟨p,hs.trans h1,?_⟩;obtain⟨cs,a1,a2,a3,a4,a5,a6⟩:=h2.ex;have hin:∀i j x,Xz [r'] i j=some x->i=0∧r'[j]? =some x:=fun i j x hx=>by
   unfold Xz at hx;cases i with
   |zero=>exact⟨rfl,by simpa using hx⟩
   |succ i=>simp at hx
  refine⟨cs,a1,a2,a3,a4,fun i j x v hx hv=>?_,fun i j x hx=>?_⟩
  ·obtain⟨rfl,hj⟩:=hin i j x hx;have hjs:j<sz:=by rw[<-hl];exact(ZG.1 hj).1
   refine⟨by simp,hjs,?_⟩;rcases hr j x hj with rfl|⟨x0,g1,g2⟩
   ·exact .any _
   ·exact g2 v (a5 0 j x0 v (by simp[Xz,g1]) hv).2.2
  ·obtain⟨rfl,hj⟩:=hin i j x hx;exact⟨by simp,by rw[<-hl];exact(ZG.1 hj).1⟩
theorem Zli{k v:Qe}{H:List Qb}{n:Nat}:∀{es:List Qr} {i:Nat} {c:Bool} {l:List (k.El×v.El)},Qf3 k v H n i es=some (c,l)->c=true->l.length=es.length∧
  ∀(j:Nat) (x:k.El×v.El),l[j]? =some x->∃e,es[j]? =some e∧e.2.2=i+j∧k.Qcy (.lit e.1)=some x.1∧rdA H n v e.2.1=some (true,x.2)
 |[],i,c,l,h,hc=>by cases h;exact⟨rfl,fun j x hx=>by simp at hx⟩
 |e::es,i,c,l,h,hc=>by
  simp only[Qf3]at h;split at h
  ·cases h
  ·rename_i hb;split at h
   ·cases h
   ·rename_i a ha;split at h
    ·cases h
    ·rename_i b hb2;split at h
     ·cases h
     ·rename_i d hd;cases h;rw[ZA]at hc;obtain⟨g1,g2⟩:=Zli (c:=d.1) (l:=d.2) hd hc.2;refine⟨by simp[g1],fun j x hx=>?_⟩;cases j with
      |zero=>simp at hx;subst hx;exact⟨e,rfl,C hb,ha,by rw[hb2,<-hc.1]⟩
      |succ j=>obtain⟨e',q1,q2,q3⟩:=g2 j x (by simpa using hx);exact⟨e',by simpa using q1,by omega,q3⟩
theorem Wk.data{M:Qd}{U ρ2:Env}{H:List Qb}{w:World}{n s:Nat}(hm:Mem M U H w){k v:Qe}{es:List Qr}{c:Nat}{cc:Bool}{l:List (k.El×v.El)}(hs:ρ2 s=U s)(h:Wk M U w s es c)(hlen:c=es.length)(hk:k.scalar=true)(hd:Qf3 k v H n 0 es=some (cc,l))(hc:cc=true):
  Wk (M.sealing U H n w) ρ2 w s (Xg k v 0 l) l.length:=by
 obtain⟨g1,g2⟩:=Zli hd hc;obtain⟨p,arr,h1,h2,h3,h4⟩:=h;refine⟨p,arr,hs.trans h1,by rw[g1,<-hlen];exact h2,by rw[Qcl,g1];exact h3,fun i kk x b hi=>?_⟩;rw[Vg]at hi;simp only[ZC,Prod.mk.injEq]at hi;obtain⟨y,hy,rfl,rfl,rfl⟩:=hi;obtain⟨e,q1,q2,q3,q4⟩:=g2 i y hy;obtain⟨me,m1,m2,m3,m4⟩:=h4 i e.1 e.2.1 e.2.2 q1;refine⟨me,m1,?_,by rw[m3,q2],Ya3 hm q4 rfl m4⟩;rw[m2];exact Qqx hk (Qe.Qen (M:=M) (U:=U) q3 (.pv (.lit _)))
theorem Ykh{M:Qd}{U ρ2:Env}{w:World}{s:Nat}{k v k' v':Qe}{l:List (k.El×v.El)}{l':List (k'.El×v'.El)}(h:Qmi k v k' v' l=some l')(ho:Wk M U w s (Xg k v 0 l) l.length):Wk M U w s (Xg k' v' 0 l') l'.length:=by obtain⟨e,e',rfl⟩:=Ypq h;subst e;subst e';exact ho
inductive Qiq:(l:PL)->Ji l->Nat->(a:Qe)->a.El->Prop where
 |one (p:Nat×Qe) (x:p.2.El):Qiq [p] x p.1 p.2 x
 |head (p p':Nat×Qe) (l:PL) (x:p.2.El×Ji (p'::l)):Qiq (p::p'::l) x p.1 p.2 x.1
 |tail (p p':Nat×Qe) (l:PL) (x:p.2.El×Ji (p'::l)) (j:Nat) (a:Qe) (y:a.El) (h:Qiq (p'::l) x.2 j a y):Qiq (p::p'::l) x j a y
theorem Ziq:∀{l:PL} {x:Ji l} {r:List SV} {j:Nat} {y:SV},(Qaj l x r)[j]? =some y->(∃a z,Qiq l x j a z∧y=a.sv z)∨r[j]? =some y
 |[],x,r,j,y,h=>.inr h
 |[p],x,r,j,y,h=>by
  simp only[Qaj,ZK]at h;split at h
  ·rename_i e;subst e;split at h
   ·cases h;exact .inl ⟨p.2,x,.one p x,rfl⟩
   ·cases h
  ·exact .inr h
 |p::p'::l,x,r,j,y,h=>by
  have h0:(Qaj (p'::l) x.2 (r.set p.1 (p.2.sv x.1)))[j]? =some y:=h;clear h;rcases Ziq h0 with⟨a,z,h1,h2⟩|h
  ·exact .inl ⟨a,z,.tail _ _ _ _ _ _ _ h1,h2⟩
  ·rw[ZK]at h;split at h
   ·rename_i e;subst e;split at h
    ·cases h;exact .inl ⟨p.2,x.1,.head _ _ _ _,rfl⟩
    ·cases h
   ·exact .inr h
theorem Zb3:∀{l:PL} {x:Ji l} {r:List SV},(Qaj l x r).length=r.length
 |[],x,r=>rfl
 |[p],x,r=>by simp[Qaj]
 |p::p'::l,x,r=>by show(Qaj (p'::l) x.2 _).length=_;rw[Zb3];simp
theorem Zf7{H:List Qb}{n:Nat}{r:List SV}:∀{l:PL} {c:Bool} {x:Ji l},Qfi H n r l=some (c,x)->c=true->∀j a (z:a.El),Qiq l x j a z->∃y,r[j]? =some y∧rdA H n a y=some (true,z)
 |[],c,x,h,hc,j,a,z,hi=>by cases hi
 |[p],c,x,h,hc,j,a,z,hi=>by
  simp only[Qfi]at h;split at h
  ·rename_i y hy;cases hi with
   |one=>exact⟨y,hy,by rw[h,hc];rfl⟩
  ·cases h
 |p::p'::l,c,x,h,hc,j,a,z,hi=>by
  simp only[Qfi]at h;split at h
  ·cases h
  ·rename_i y hy;split at h
   ·cases h
   ·rename_i a' ha;split at h
    ·cases h
    ·rename_i b hb;cases h;rw[ZA]at hc;cases hi with
     |head=>exact⟨y,hy,by rw[ha,<-hc.1]⟩
     |tail _ _ _ _ _ _ _ hi=>exact Zf7 (c:=b.1) (x:=b.2) hb hc.2 j a z hi
theorem Zh8{H:List Qb}:∀{l:List (Nat×Lk)} {r:List SV} {j:Nat} {y:SV},(Qc8 H l r)[j]? =some y->(∃q∈l,q.1=j∧y=Qf7 H q.2)∨r[j]? =some y
 |[],r,j,y,h=>.inr h
 |q::l,r,j,y,h=>by
  simp only[Qc8]at h;rcases Zh8 h with⟨q',h1,h2⟩|h
  ·exact .inl ⟨q',ZD _ h1,h2⟩
  ·rw[ZK]at h;split at h
   ·rename_i e;split at h
    ·cases h;exact .inl ⟨q,ZH,e,rfl⟩
    ·cases h
   ·exact .inr h
theorem Zcj{H:List Qb}:∀{l:List (Nat×Lk)} {r:List SV},(Qc8 H l r).length=r.length
 |[],r=>rfl
 |q::l,r=>by simp[Qc8,Zcj]
theorem Zkd{H:List Qb}{n:Nat}{r:List SV}:∀{l:List (Nat×Lk)} {c:Bool},Qis H n r l=some c->c=true->∀q∈l,∃x,r[q.1]? =some x∧Qfy H n x q.2=some true
 |[],c,h,hc,q,hq=>by cases hq
 |p::l,c,h,hc,q,hq=>by
  simp only[Qis]at h;split at h
  ·cases h
  ·rename_i x hx;split at h
   ·cases h
   ·rename_i c1 h1;split at h
    ·cases h
    ·rename_i d hd;cases h;rw[ZA]at hc;rcases ZI.1 hq with rfl|hq
     ·exact⟨x,hx,by rw[h1,hc.1]⟩
     ·exact Zkd hd hc.2 q hq
theorem Zcm{T:TT}{H:List Qb}{n:Nat}:∀{l:List (Nat×Lk)} {c:Bool},Qoi T H n l=some c->c=true->∀q∈l,∃x,T.get q.1=some x∧Qfy H n x q.2=some true
 |[],c,h,hc,q,hq=>by cases hq
 |p::l,c,h,hc,q,hq=>by
  simp only[Qoi]at h;split at h
  ·cases h
  ·rename_i x hx;split at h
   ·cases h
   ·rename_i c1 h1;split at h
    ·cases h
    ·rename_i d hd;cases h;rw[ZA]at hc;rcases ZI.1 hq with rfl|hq
     ·exact⟨x,hx,by rw[h1,hc.1]⟩
     ·exact Zcm hd hc.2 q hq
theorem Qf.Zl3{M M2:Qd}{U:Env}{H:List Qb}{w:World}(hm:Mem M U H w)(hle:M.le M2)(n:Nat){v:Value}{x:SV}(hf:x.free n=true)(h:Qf M U v x):Qf M2 (U.cut n) v x:=by have:=h.forget (d:=Uv n H.length) hle (Qhv hm n);rwa[SV.Qc1 x hf]at this
def Qsk(n:Nat)(H H1:List Qb)(lk:Lk):Prop:=match lk with
 |.stat _=>True
 |.own s=>s<n->∀o sz,H[s]? =some o->o.szl=some sz->∃o1,H1[s]? =some o1∧o1.szl=some sz∧o1.len=o.len
theorem Zi1{M M2:Qd}{U:Env}{H H1:List Qb}{w:World}{n:Nat}(hm:Mem M U H w)(hle:M.le M2){x:SV}{lk:Lk}(h:Qfy H n x lk=some true)(hl:Qsk n H H1 lk){v:Value}(hr:Qf M U v x):Qf M2 (U.cut n) v (Qf7 H1 lk):=by
 cases lk with
 |stat y=>
  simp only[Qfy]at h;split at h
  ·rename_i e;rw[ZA]at e;have:=SV.Zad _ _ e.1;subst this;exact hr.Zl3 hm hle n e.2
  ·cases h
 |own s=>
  simp only[Qfy]at h;split at h
  ·rename_i s' sz st m;split at h
   ·cases h
   ·rename_i e;simp only[ZA]at e;have e1:=C e.1;have e2:=C e.2.1;have e3:=Qbn e.2.2;subst e1;subst e2;split at h
    ·cases h
    ·rename_i o ho;split at h
     ·cases h
     ·rename_i sz' hsz;split at h
      ·rename_i e4;have e4:=C e4;subst e4;have hmm:m=o.len:=by simpa using h
       obtain⟨o1,q1,q2,q3⟩:=hl e3 o sz' ho hsz;have hx:Qf7 H1 (.own s')=.sl s' sz' 0 o.len:=by simp only[Qf7,q1,q2,q3]
       rw[hx,<-hmm];exact hr.Zl3 hm hle n (by simp only[SV.free];exact e.2.2)
      ·cases h
  ·cases h
theorem Qcp{l m:List Nat}(h:subset l m=true){x:Nat}(hx:x∈l):x∈m:=by have:=ZF.1 h x hx;simpa using this
theorem Qq.Zac{T:TT}{H H1:List Qb}{n:Nat}{c:Qq}{cc:Bool}{x:c.El}{s:Nat}(h:c.get T H n=some (cc,x))(hc:cc=true)(hs:c.id? =some s):
  ∃o,H[s]? =some o∧o.live=true∧(∀sz,o.szl=some sz->(c.obj H1 x).szl=some sz∧(c.obj H1 x).len=o.len):=by
 cases c with
 |slot=>cases hs
 |vec d ty row=>
  cases hs;have h:(match H[s]? with
   |some (.tvec ty' row' l)=>match ZB ty' ty with
    |true=>match K5 row' row l with
     |some l=>some (true,l)
     |none=>none
    |false=>none
   |some (.vec ty' sz rows)=>match ZB ty' ty&&ZB sz row.length with
    |true=>match Wn (ofRow row) rows with
     |some l=>some (true,l)
     |none=>none
    |false=>none
   |some (.mix ty' sz rows)=>match ZB ty' ty&&ZB sz row.length with
    |true=>Qbb (Va H n row) rows
    |false=>none
   |_=>none)=some (cc,x):=h
  split at h
  ·rename_i ty' row' l ho;refine⟨_,ho,rfl,fun sz hsz=>?_⟩;split at h
   ·split at h
    ·rename_i l' hl;cases h;obtain⟨e,rfl⟩:=Qa9 hl;subst e;exact⟨hsz,rfl⟩
    ·cases h
   ·cases h
  ·rename_i ty' sz' rows ho;refine⟨_,ho,rfl,fun sz hsz=>?_⟩;split at h
   ·rename_i e;rw[ZA]at e;split at h
    ·rename_i l hl;cases h;have e2:=C e.2;simp only[Qb.szl,ZJ]at hsz;exact⟨by simp only[Qq.obj,Qb.szl];rw[<-e2,hsz],(Qj7 hl).1⟩
    ·cases h
   ·cases h
  ·rename_i ty' sz' rows ho;refine⟨_,ho,rfl,fun sz hsz=>?_⟩;split at h
   ·rename_i e;rw[ZA]at e;have e2:=C e.2;simp only[Qb.szl,ZJ]at hsz;refine⟨by simp only[Qq.obj,Qb.szl];rw[<-e2,hsz],?_⟩;have key:∀(rs:List (List SV)) (c:Bool) (l:List (Qj row)),Qbb (Va H n row) rs=some (c,l)->l.length=rs.length:=by
     intro rs;induction rs with
     |nil=>intro c l h;cases h;rfl
     |cons r rs ih=>
      intro c l h;simp only[Qbb]at h;split at h
      ·cases h
      ·split at h
       ·cases h
       ·rename_i b hb;cases h;simp[ih b.1 b.2 hb]
    exact key _ _ _ h
   ·cases h
  ·cases h
 |one d ty row=>
  cases hs;have h:(match H[s]? with
   |some o=>match Qa7 o with
    |some (ty',sz,r)=>match ZB ty' ty&&ZB sz row.length with
     |true=>Va H n row r
     |false=>none
    |none=>none
   |none=>none)=some (cc,x):=h
  split at h
  ·rename_i o ho;split at h
   ·rename_i ty' sz' r hr;obtain⟨g1,g2,g3,_⟩:=Qmg (M:=fun _=>none) (U:=fun _=>none) (w:=default) (s:=0) hr;refine⟨o,ho,g1,fun sz hsz=>?_⟩;split at h
    ·rename_i e;rw[ZA]at e;have g2:=Qb.Zmf g2;rw[hsz]at g2;cases g2;have e2:=C e.2;exact⟨by simp only[Qq.obj,Qb.szl];rw[<-e2],by rw[g3];rfl⟩
    ·cases h
   ·cases h
  ·cases h
 |mix d ty sz0 dat lnk=>
  cases hs;have h:(match H[s]? with
   |some o=>match Qa7 o with
    |some (ty',sz',r)=>match ZB ty' ty&&ZB sz' sz0 with
     |true=>match Qis H n r lnk with
      |some c=>match Qfi H n r dat with
       |some x=>some (c&&x.1,x.2)
       |none=>none
      |none=>none
     |false=>none
    |none=>none
   |none=>none)=some (cc,x):=h
  split at h
  ·rename_i o ho;split at h
   ·rename_i ty' sz' r hr;obtain⟨g1,g2,g3,_⟩:=Qmg (M:=fun _=>none) (U:=fun _=>none) (w:=default) (s:=0) hr;refine⟨o,ho,g1,fun sz hsz=>?_⟩;split at h
    ·rename_i e;rw[ZA]at e;have g2:=Qb.Zmf g2;rw[hsz]at g2;cases g2;have e2:=C e.2;exact⟨by simp only[Qq.obj,Qb.szl];rw[<-e2],by rw[g3];rfl⟩
    ·cases h
   ·cases h
  ·cases h
 |map d k v=>
  cases hs;have h:(match H[s]? with
   |some (.tmap k' v' l)=>match Qmi k' v' k v l with
    |some l=>some (true,l)
    |none=>none
   |some (.map es c)=>match ZB c es.length&&k.scalar with
    |true=>Qf3 k v H n 0 es
    |false=>none
   |_=>none)=some (cc,x):=h
  split at h
  ·rename_i k' v' l ho;exact⟨_,ho,rfl,fun sz hsz=>by cases hsz⟩
  ·rename_i es c ho;exact⟨_,ho,rfl,fun sz hsz=>by cases hsz⟩
  ·cases h
 |iter d=>
  cases hs;have h:(match H[s]? with
   |some (.iter b pos)=>some (true,(b,pos))
   |_=>none)=some (cc,x):=h
  split at h
  ·rename_i b pos ho;exact⟨_,ho,rfl,fun sz hsz=>by cases hsz⟩
  ·cases h
 |over d pd=>
  cases hs;have h:(match H[s]? with
   |some (.over .done pd')=>match Qkk pd' pd with
    |true=>some (true,())
    |false=>none
   |_=>none)=some (cc,x):=h
  split at h
  ·rename_i pd' ho;exact⟨_,ho,rfl,fun sz hsz=>by cases hsz⟩
  ·cases h
 |nest d ty ity row=>
  cases hs;have h:(match H[s]? with
   |some (.nest ty' ity' row' ll none)=>match ZB ty' ty&&ZB ity' ity with
    |true=>match Qq4 row' row ll with
     |some l=>some (true,l)
     |none=>none
    |false=>none
   |_=>none)=some (cc,x):=h
  split at h
  ·rename_i ty' ity' row' ll ho;split at h
   ·split at h
    ·rename_i l' hl;cases h;obtain⟨e,rfl⟩:=Zgt hl;subst e;exact⟨_,ho,rfl,fun sz hsz=>⟨hsz,rfl⟩⟩
    ·cases h
   ·cases h
  ·cases h
 |fix d es c=>
  cases hs;have h:(match H[s]? with
   |some o'=>match Qk4 o' (.map es c)&&(Qb.map es c).free n with
    |true=>some (true,())
    |false=>none
   |none=>none)=some (cc,x):=h
  split at h
  ·rename_i o' ho;split at h
   ·rename_i e;rw[ZA]at e;have:=Zlk e.1;subst this;exact⟨_,ho,rfl,fun sz hsz=>by cases hsz⟩
   ·cases h
  ·cases h
 |mit d m=>
  cases hs;have h:(match H[s]? with
   |some (.mit (some m') c sn)=>match ZB m' m&&ZM m n with
    |true=>some (true,(c,sn))
    |false=>none
   |_=>none)=some (cc,x):=h
  split at h
  ·rename_i m' c sn ho;split at h
   ·rename_i e;rw[ZA]at e;have e1:=C e.1;subst e1;exact⟨_,ho,rfl,fun sz hsz=>by cases hsz⟩
   ·cases h
  ·cases h
theorem Qq.Zmg{M:Qd}{U:Env}{w:World}{T:TT}{H H1:List Qb}{n:Nat}(hm:Mem M U H w){c:Qq}{cc:Bool}{x:c.El}{s:Nat}(h:c.get T H n=some (cc,x))(hc:cc=true)(hs:c.id? =some s)(hsn:s<n)
  (hlk:∀q∈c.Zma,Qsk n H H1 q.2):Q9 (M.sealing U H n w) (U.cut n) w s (c.obj H1 x):=by
 have hle:=Qd.Ws M U H n w;have hcut:(U.cut n) s=U s:=by simp[Env.cut,hsn]
 cases c with
 |slot=>cases hs
 |vec d ty row=>
  cases hs;have h:(match H[s]? with
   |some (.tvec ty' row' l)=>match ZB ty' ty with
    |true=>match K5 row' row l with
     |some l=>some (true,l)
     |none=>none
    |false=>none
   |some (.vec ty' sz rows)=>match ZB ty' ty&&ZB sz row.length with
    |true=>match Wn (ofRow row) rows with
     |some l=>some (true,l)
     |none=>none
    |false=>none
   |some (.mix ty' sz rows)=>match ZB ty' ty&&ZB sz row.length with
    |true=>Qbb (Va H n row) rows
    |false=>none
   |_=>none)=some (cc,x):=h
  show Q9 _ _ w s (.tvec ty row x);split at h
  ·rename_i ty' row' l ho;split at h
   ·rename_i e;have e:=C e;subst e;split at h
    ·rename_i l' hl;cases h;obtain⟨e,rfl⟩:=Qa9 hl;subst e;have h0:Q9 M U w s (.tvec ty' row' l):=hm.own s _ ho;replace h0:Q9 M U w s (.vec ty' row'.length (Qw row' l)):=h0;exact h0.Qte.Qno hle hcut (.self hle l)
    ·cases h
   ·cases h
  ·rename_i ty' sz rows ho;split at h
   ·rename_i e;rw[ZA]at e;have e1:=C e.1;have e2:=C e.2;subst e1;subst e2;split at h
    ·rename_i l hl;cases h;have h0:Q9 M U w s (.vec ty' row.length rows):=hm.own s _ ho;exact h0.Qte.Qno hle hcut (Qci.of hle hl)
    ·cases h
   ·cases h
  ·rename_i ty' sz rows ho;split at h
   ·rename_i e;rw[ZA]at e;have e1:=C e.1;have e2:=C e.2;subst e1;subst e2;have h0:Q9 M U w s (.mix ty' row.length rows):=hm.own s _ ho;exact h0.Qno hle hcut (Qpu (Qk1 n hm row) _ _ _ h hc)
   ·cases h
  ·cases h
 |one d ty row=>
  cases hs;have h:(match H[s]? with
   |some o=>match Qa7 o with
    |some (ty',sz,r)=>match ZB ty' ty&&ZB sz row.length with
     |true=>Va H n row r
     |false=>none
    |none=>none
   |none=>none)=some (cc,x):=h
  show Q9 _ _ w s (.vec ty row.length [Zs row x]);split at h
  ·rename_i o ho;split at h
   ·rename_i ty' sz' r hr;split at h
    ·rename_i e;rw[ZA]at e;have e1:=C e.1;have e2:=C e.2;subst e1;subst e2;have h0:=(Qmg (M:=M) (U:=U) (w:=w) (s:=s) hr).2.2.2 (hm.own s _ ho);have:=Qk1 n hm row r cc x h hc;have hrf:Qci M U (M.sealing U H n w) row [r] [x]:=⟨rfl,fun i y hy=>by
      match i,hy with
      |0,hy=>cases hy;exact⟨r,rfl,this⟩
      |i+1,hy=>cases hy⟩
     exact Q9.Qno (l:=[x]) hle hcut hrf h0
    ·cases h
   ·cases h
  ·cases h
 |mix d ty sz0 dat lnk=>
  cases hs;have h:(match H[s]? with
   |some o=>match Qa7 o with
    |some (ty',sz',r)=>match ZB ty' ty&&ZB sz' sz0 with
     |true=>match Qis H n r lnk with
      |some c=>match Qfi H n r dat with
       |some x=>some (c&&x.1,x.2)
       |none=>none
      |none=>none
     |false=>none
    |none=>none
   |none=>none)=some (cc,x):=h
  show Q9 _ _ w s (.mix ty sz0 [Qc8 H1 lnk (Qaj dat x (ZP sz0 .any))]);split at h
  ·rename_i o ho;split at h
   ·rename_i ty' sz' r hr;split at h
    ·rename_i e;rw[ZA]at e;have e1:=C e.1;have e2:=C e.2;subst e1;subst e2;split at h
     ·rename_i c1 hl1;split at h
      ·rename_i x1 hx1;cases h;rw[ZA]at hc;have h0:=(Qmg (M:=M) (U:=U) (w:=w) (s:=s) hr).2.2.2 (hm.own s _ ho);refine Q9.Zl9 hcut (by rw[Zcj,Zb3,List.length_replicate]) (fun j y hy=>?_) h0;rcases Zh8 hy with⟨q,hq,rfl,rfl⟩|hy
       ·obtain⟨x,g1,g2⟩:=Zkd hl1 hc.1 q hq;exact .inr ⟨x,g1,fun u hu=>Zi1 hm hle g2 (hlk q hq) hu⟩
       ·rcases Ziq hy with⟨a,z,hz,rfl⟩|hy
        ·obtain⟨x,g1,g2⟩:=Zf7 (c:=x1.1) (x:=x1.2) hx1 hc.2 j a z hz;exact .inr ⟨x,g1,fun u hu=>Qyt hm g2 rfl hu⟩
        ·rw[List.getElem?_replicate]at hy;split at hy
         ·cases hy;exact .inl rfl
         ·cases hy
      ·cases h
     ·cases h
    ·cases h
   ·cases h
  ·cases h
 |map d k v=>
  cases hs;have h:(match H[s]? with
   |some (.tmap k' v' l)=>match Qmi k' v' k v l with
    |some l=>some (true,l)
    |none=>none
   |some (.map es c)=>match ZB c es.length&&k.scalar with
    |true=>Qf3 k v H n 0 es
    |false=>none
   |_=>none)=some (cc,x):=h
  show Wk _ _ w s (Xg k v 0 x) (List.length x);split at h
  ·rename_i k' v' l ho;split at h
   ·rename_i l' hl;cases h;refine Ykh (ρ2:=U) hl ?_;have h0:Q9 M U w s (.tmap k' v' l):=hm.own s _ ho;have:=h0.forget (d:=Uv n H.length) hle (Qhv hm n) hcut (fun _ _ _ _=>rfl);exact this
   ·cases h
  ·rename_i es c ho;split at h
   ·rename_i e;rw[ZA]at e;exact Wk.data hm hcut (hm.own s _ ho) (C e.1) e.2 h hc
   ·cases h
  ·cases h
 |iter d=>
  cases hs;have h:(match H[s]? with
   |some (.iter b pos)=>some (true,(b,pos))
   |_=>none)=some (cc,x):=h
  split at h
  ·rename_i b pos ho;cases h;obtain⟨p,h1,h2⟩:=hm.own s _ ho;exact⟨p,hcut.trans h1,h2⟩
  ·cases h
 |over d pd=>
  cases hs;have h:(match H[s]? with
   |some (.over .done pd')=>match Qkk pd' pd with
    |true=>some (true,())
    |false=>none
   |_=>none)=some (cc,x):=h
  split at h
  ·rename_i pd' ho;split at h
   ·rename_i e;cases h;obtain⟨p,r,h1,h2,h3,h4⟩:=hm.own s _ ho;exact⟨p,r,hcut.trans h1,h2,h3,h4.trans (Ztm e)⟩
   ·cases h
  ·cases h
 |nest d ty ity row=>
  cases hs;have h:(match H[s]? with
   |some (.nest ty' ity' row' ll none)=>match ZB ty' ty&&ZB ity' ity with
    |true=>match Qq4 row' row ll with
     |some l=>some (true,l)
     |none=>none
    |false=>none
   |_=>none)=some (cc,x):=h
  split at h
  ·rename_i ty' ity' row' ll ho;split at h
   ·rename_i e;rw[ZA]at e;have e1:=C e.1;have e2:=C e.2;subst e1;subst e2;split at h
    ·rename_i l' hl;cases h;obtain⟨e,rfl⟩:=Zgt hl;subst e;exact(hm.own s _ ho).forget (d:=Uv n H.length) hle (Qhv hm n) hcut (fun _ _ _ _=>rfl)
    ·cases h
   ·cases h
  ·cases h
 |fix d es c=>
  cases hs;have h:(match H[s]? with
   |some o'=>match Qk4 o' (.map es c)&&(Qb.map es c).free n with
    |true=>some (true,())
    |false=>none
   |none=>none)=some (cc,x):=h
  split at h
  ·rename_i o' ho;split at h
   ·rename_i e;rw[ZA]at e;have:=Zlk e.1;subst this;have h0:=(hm.own s _ ho).forget (d:=Uv n H.length) hle (Qhv hm n) hcut (fun _ _ _ _=>rfl);rw[Qb.Qc1 _ e.2]at h0;exact h0
   ·cases h
  ·cases h
 |mit d m=>
  cases hs;have h:(match H[s]? with
   |some (.mit (some m') c sn)=>match ZB m' m&&ZM m n with
    |true=>some (true,(c,sn))
    |false=>none
   |_=>none)=some (cc,x):=h
  split at h
  ·rename_i m' c sn ho;split at h
   ·rename_i e;rw[ZA]at e;have e1:=C e.1;subst e1;have e2:=e.2;rw[Nat.blt_eq]at e2;cases h;obtain⟨p,q,sn,h1,h2,h3,h4⟩:=hm.own s _ ho;refine⟨p,q,sn,hcut.trans h1,h2,h3,fun mm em=>?_⟩;cases em;obtain⟨pm,a1,a2⟩:=h4 m' rfl;exact⟨pm,by simp[Env.cut,e2,a1],a2⟩
   ·cases h
  ·cases h
inductive Qac:(l:List Qq)->Yi l->(c:Qq)->c.El->Prop where
 |one (c:Qq) (x:c.El):Qac [c] x c x
 |head (c c':Qq) (l:List Qq) (x:c.El×Yi (c'::l)):Qac (c::c'::l) x c x.1
 |tail (c c':Qq) (l:List Qq) (x:c.El×Yi (c'::l)) (d:Qq) (y:d.El) (h:Qac (c'::l) x.2 d y):Qac (c::c'::l) x d y
theorem Qac.mem:∀{l:List Qq} {x:Yi l} {k:Qq} {z:k.El},Qac l x k z->k∈l
 |_,_,_,_,.one c x=>by simp
 |_,_,_,_,.head c c' l x=>by simp
 |_,_,_,_,.tail c c' l x d y hi=>ZD _ hi.mem
theorem Zx7{l:List Qq}{x:Yi l}{k:Qq}{z:k.El}{s:Nat}(hi:Qac l x k z)(h:k.id? =some s):s∈l.filterMap Qq.id? :=ZL.2 ⟨k,hi.mem,h⟩
theorem Zj1{T:TT}{H:List Qb}{n:Nat}:∀{l:List Qq} {c:Bool} {x:Yi l},Qrj T H n l=some (c,x)->c=true->∀(k:Qq) (y:k.El),Qac l x k y->k.get T H n=some (true,y)
 |[],c,x,h,hc,k,y,hi=>by cases hi
 |[k0],c,x,h,hc,k,y,hi=>by
  cases hi with
  |one=>rw[<-hc];exact h
 |k0::k1::l,c,x,h,hc,k,y,hi=>by
  simp only[Qrj]at h;split at h
  ·cases h
  ·rename_i a h1;split at h
   ·cases h
   ·rename_i b h2;cases h;rw[ZA]at hc;cases hi with
    |head=>rw[h1,<-hc.1]
    |tail _ _ _ _ _ _ hi=>exact Zj1 (c:=b.1) (x:=b.2) h2 hc.2 k y hi
theorem Qq.put_H{H0:List Qb}{c:Qq}{x:c.El}{T:TT}{H:List Qb}{s:Nat}{o:Qb}(h:(c.put H0 x (T,H)).2[s]? =some o):(c.id? =some s∧o=c.obj H0 x)∨(c.id? ≠some s∧H[s]? =some o):=by
 have key:∀(d:Nat) (ob:Qb),(H.set d ob)[s]? =some o->(some d=some s∧o=ob)∨(some d≠some s∧H[s]? =some o):=fun d ob h'=>by
  clear h;rw[ZK]at h';split at h'
  ·rename_i e;subst e;split at h'
   ·cases h';exact .inl ⟨rfl,rfl⟩
   ·cases h'
  ·rename_i e;exact .inr ⟨by simp[e],h'⟩
 cases c with
 |slot d ty=>exact .inr ⟨by simp[Qq.id?],h⟩
 |vec d ty row=>exact key d _ h
 |one d ty row=>exact key d _ h
 |mix d ty sz dat lnk=>exact key d _ h
 |map d k v=>exact key d _ h
 |iter d=>exact key d _ h
 |over d pd=>exact key d _ h
 |nest d ty ity row=>exact key d _ h
 |fix d es c=>exact key d _ h
 |mit d m=>exact key d _ h
theorem Qq.Zl6{H0:List Qb}{c:Qq}{x:c.El}{T:TT}{H:List Qb}{t:Nat}{y:SV}(h:(c.put H0 x (T,H)).1.get t=some y):(∃(a:Qe) (z:a.El),HEq x z∧c=.slot t a∧y=a.sv z)∨T.get t=some y:=by
 cases c with
 |slot d a=>
  rcases TT.W6 _ _ _ _ _ h with⟨rfl,rfl⟩|⟨_,h⟩
  ·exact .inl ⟨a,x,HEq.rfl,rfl,rfl⟩
  ·exact .inr h
 |vec _ _ _=>exact .inr h
 |one _ _ _=>exact .inr h
 |mix _ _ _ _ _=>exact .inr h
 |map _ _ _=>exact .inr h
 |iter _=>exact .inr h
 |over _ _=>exact .inr h
 |nest _ _ _ _=>exact .inr h
 |fix _ _ _=>exact .inr h
 |mit _ _=>exact .inr h
theorem Zct{H0:List Qb}:∀{l:List Qq} {x:Yi l} {T:TT} {H:List Qb} {t:Nat} {y:SV},(putCells H0 l x (T,H)).1.get t=some y->(∃(a:Qe) (z:a.El),Qac l x (.slot t a) z∧y=a.sv z)∨T.get t=some y
 |[],x,T,H,t,y,h=>.inr h
 |[c],x,T,H,t,y,h=>by
  rcases Qq.Zl6 h with⟨a,z,he,rfl,rfl⟩|h
  ·cases he;exact .inl ⟨a,_,.one _ _,rfl⟩
  ·exact .inr h
 |c::c'::l,x,T,H,t,y,h=>by
  have h:(putCells H0 (c'::l) x.2 ((c.put H0 x.1 (T,H)).1,(c.put H0 x.1 (T,H)).2)).1.get t=some y:=h;rcases Zct h with⟨a,z,hi,hy⟩|h
  ·exact .inl ⟨a,z,.tail _ _ _ _ _ _ hi,hy⟩
  ·obtain⟨x1,x2⟩:=x;rcases Qq.Zl6 h with⟨a,z,he,rfl,rfl⟩|h
   ·cases he;exact .inl ⟨a,_,.head _ _ _ _,rfl⟩
   ·exact .inr h
theorem Qkw{H0:List Qb}:∀{l:List Qq} {x:Yi l} {T:TT} {H:List Qb} {s:Nat} {o:Qb},(putCells H0 l x (T,H)).2[s]? =some o->
  (∃(c:Qq) (z:c.El),Qac l x c z∧c.id? =some s∧o=c.obj H0 z)∨(s∉l.filterMap Qq.id? ∧H[s]? =some o)
 |[],x,T,H,s,o,h=>.inr ⟨by simp,h⟩
 |[c],x,T,H,s,o,h=>by
  rcases Qq.put_H h with⟨e,ho⟩|⟨e,h⟩
  ·exact .inl ⟨c,x,.one _ _,e,ho⟩
  ·refine .inr ⟨fun hm=>?_,h⟩;obtain⟨d,hd,he⟩:=ZL.1 hm;simp at hd;subst hd;exact e he
 |c::c'::l,x,T,H,s,o,h=>by
  have h:(putCells H0 (c'::l) x.2 ((c.put H0 x.1 (T,H)).1,(c.put H0 x.1 (T,H)).2)).2[s]? =some o:=h;rcases Qkw h with⟨d,z,hi,he,ho⟩|⟨hn,h⟩
  ·exact .inl ⟨d,z,.tail _ _ _ _ _ _ hi,he,ho⟩
  ·rcases Qq.put_H h with⟨e,ho⟩|⟨e,h⟩
   ·exact .inl ⟨c,x.1,.head _ _ _ _,e,ho⟩
   ·refine .inr ⟨fun hm=>?_,h⟩;obtain⟨d,hd,he⟩:=ZL.1 hm;rcases ZI.1 hd with rfl|hd
    ·exact e he
    ·exact hn (ZL.2 ⟨d,hd,he⟩)
theorem Qq.Zmh{H0:List Qb}{c:Qq}{x:c.El}{T:TT}{H:List Qb}:(c.put H0 x (T,H)).2.length=H.length:=by cases c<;>simp[Qq.put]
theorem Qji{H0:List Qb}:∀{l:List Qq} {x:Yi l} {T:TT} {H:List Qb},(putCells H0 l x (T,H)).2.length=H.length
 |[],x,T,H=>rfl
 |[c],x,T,H=>Qq.Zmh
 |c::c'::l,x,T,H=>by show(putCells H0 (c'::l) x.2 ((c.put H0 x.1 (T,H)).1,(c.put H0 x.1 (T,H)).2)).2.length=H.length;rw[Qji,Qq.Zmh]
theorem Qzi:∀{l:List Nat} {H:List Qb} {s:Nat} {o:Qb},(Qbi l H)[s]? =some o->(s∈l∧o=.dead)∨(s∉l∧H[s]? =some o)
 |[],H,s,o,h=>.inr ⟨by simp,h⟩
 |i::l,H,s,o,h=>by
  simp only[Qbi]at h;rcases Qzi h with⟨h1,h2⟩|⟨h1,h2⟩
  ·exact .inl ⟨ZD _ h1,h2⟩
  ·rw[ZK]at h2;split at h2
   ·rename_i e;subst e;split at h2
    ·cases h2;exact .inl ⟨ZH,rfl⟩
    ·cases h2
   ·rename_i e;exact .inr ⟨by simp only[ZI,not_or];exact⟨fun h=>e h.symm,h1⟩,h2⟩
theorem Qhf:∀{l:List Nat} {H:List Qb},(Qbi l H).length=H.length
 |[],H=>rfl
 |i::l,H=>by simp[Qbi,Qhf]
theorem Zd3:∀{D:List Nat} {T:TT} {t:Nat} {y:SV},(T.drop D).get t=some y->y=.any∨(t∉D∧T.get t=some y)
 |[],T,t,y,h=>.inr ⟨by simp,h⟩
 |d::D,T,t,y,h=>by
  simp only[TT.drop]at h;rcases Zd3 h with h|⟨h1,h2⟩
  ·exact .inl h
  ·rcases TT.W6 _ _ _ _ _ h2 with⟨_,rfl⟩|⟨e,h2⟩
   ·exact .inl rfl
   ·exact .inr ⟨by simp[h1,e],h2⟩
theorem Zcq{H:List Qb}:∀{l:List (Nat×Lk)} {T:TT} {t:Nat} {y:SV},(Qk0 H l T).get t=some y->(∃q∈l,q.1=t∧y=Qf7 H q.2)∨T.get t=some y
 |[],T,t,y,h=>.inr h
 |q::l,T,t,y,h=>by
  simp only[Qk0]at h;rcases Zcq h with⟨q',h1,h2⟩|h
  ·exact .inl ⟨q',ZD _ h1,h2⟩
  ·rcases TT.W6 _ _ _ _ _ h with⟨rfl,rfl⟩|⟨_,h⟩
   ·exact .inl ⟨q,ZH,rfl,rfl⟩
   ·exact .inr h
theorem Qxe{mv:List Nat}{H:List Qb}{s:Nat}{o:Qb}(h:(Wu mv H)[s]? =some o):∃x,H[s]? =some x∧(o=x.forget mv∨(mv=[]∧o=x)):=by
 unfold Wu at h;split at h
 ·exact⟨o,h,.inr ⟨rfl,rfl⟩⟩
 ·simp only[List.getElem?_map,ZC]at h;obtain⟨x,hx,rfl⟩:=h;exact⟨x,hx,.inl rfl⟩
theorem Qer{mv:List Nat}{H:List Qb}:(Wu mv H).length=H.length:=by unfold Wu;split<;>simp
def Qk.H1(τ:Qk)(ids mv:List Nat)(b:St)(x:τ.El):List Qb:=(putCells [] τ.cells x (.nil,Qbi ids (Wu mv b.H))).2
theorem Qk.Qgj(τ:Qk)(D ids mv:List Nat)(b:St)(x:τ.El):(τ.st D ids mv b x).H=(putCells (τ.H1 ids mv b x) τ.cells x ((Uu mv b.T).drop D,Qbi ids (Wu mv b.H))).2:=by unfold Qk.st Qk.H1;rfl
theorem Qk.Ysx(τ:Qk)(D ids mv:List Nat)(b:St)(x:τ.El):(τ.st D ids mv b x).T=Qk0 (τ.H1 ids mv b x) τ.owns (putCells (τ.H1 ids mv b x) τ.cells x ((Uu mv b.T).drop D,Qbi ids (Wu mv b.H))).1:=by unfold Qk.st Qk.H1;rfl
theorem Qk.Qek(τ:Qk)(D ids mv:List Nat)(b:St)(x:τ.El):(τ.st D ids mv b x).n0=b.H.length∧(τ.st D ids mv b x).tch=ids∧(τ.st D ids mv b x).fg=mv∧(τ.st D ids mv b x).marks=[]∧(τ.st D ids mv b x).er=D:=by unfold Qk.st;split;split;exact⟨rfl,rfl,rfl,rfl,rfl⟩
theorem K4{B:Nat->Value}{nt:Nat}{τ:Qk}{D ids mv:List Nat}{b s':St}{H0:List Qb}{M0 M':Qd}{ρ0 U':Env}{a0 a':Act}{w0 w':World}{c:Bool}{x:τ.El}
  (hB:∀t,t∉D->a0.tmps.getD t undef=B t) (hb:Qpn D ids mv b M0 ρ0 H0 a0 w0) (hm0:Mem M0 ρ0 H0 w0)
  (hg:Good B nt M' U' s' a' w') (hf:Fr M0 ρ0 H0 w0 M' U' s'.H w' b.H.length s'.tch s'.fg) (hmv:subset mv ids=true) (hcov:τ.W7 ids=true)
  (hr:s'.reads D ids mv b.H.length=true) (hx:τ.read b.H.length s'=some (c,x)) (hc:c=true):
  ∃M'' U'',Good B nt M'' U'' (τ.st D ids mv b x) a' w'∧Fr M0 ρ0 H0 w0 M'' U'' (τ.st D ids mv b x).H w' b.H.length ids mv∧M''=M'.sealing U' s'.H b.H.length w'∧U''=U'.cut b.H.length:=by
 simp only[St.reads,ZA]at hr;unfold Qk.W7 at hcov;simp only[ZA]at hcov;obtain⟨hcov,hcov1,hcov2⟩:=hcov;obtain⟨r1,r2,r3,r4,r5⟩:=hr;have r4:s'.marks=[]:=by simpa using r4
 have r5:=Nat.le_of_ble_eq_true r5;unfold Qk.read at hx;split at hx
 ·rename_i c1 howns;split at hx
  ·rename_i x0 hcells;cases hx;rw[ZA]at hc;obtain⟨e1,e2,e3,e4,e5⟩:=Qk.Qek τ D ids mv b x0.2;have hL:(τ.st D ids mv b x0.2).H.length=b.H.length:=by rw[Qk.Qgj,Qji,Qhf,Qer]
   have hL1:(τ.H1 ids mv b x0.2).length=b.H.length:=by unfold Qk.H1;rw[Qji,Qhf,Qer]
   have hmem:=Zj1 (c:=x0.1) (x:=x0.2) hcells hc.2;have hle:=Qd.Ws M' U' s'.H b.H.length w';have hlen:∀s,s∈τ.cells.filterMap Qq.id? ->Qsk b.H.length s'.H (τ.H1 ids mv b x0.2) (.own s):=fun s hs hsn o sz ho hsz=>by
    have hs1:s<(τ.H1 ids mv b x0.2).length:=by rw[hL1];exact hsn
    obtain⟨o1,ho1⟩:∃o1,(τ.H1 ids mv b x0.2)[s]? =some o1:=⟨_,ZN hs1⟩;refine⟨o1,ho1,?_⟩;have ho1':=ho1;unfold Qk.H1 at ho1';rcases Qkw ho1' with⟨k,z,hi,hk,rfl⟩|⟨hn,_⟩
    ·obtain⟨o2,q1,_,q3⟩:=Qq.Zac (H1:=[]) (hmem k z hi) rfl hk;rw[ho]at q1;cases q1;exact q3 sz hsz
    ·exact absurd hs hn
   have hlk:∀lk:Lk,lk.inn (τ.cells.filterMap Qq.id?)=true->Qsk b.H.length s'.H (τ.H1 ids mv b x0.2) lk:=fun lk h=>by
    cases lk with
    |stat y=>trivial
    |own s=>exact hlen s (by simpa[Lk.inn]using h)
   have hobj:∀s o,(τ.st D ids mv b x0.2).H[s]? =some o->s<b.H.length∧((∃(k:Qq) (z:k.El),Qac τ.cells x0.2 k z∧k.id? =some s∧o=k.obj (τ.H1 ids mv b x0.2) z)∨o=.dead∨(s∉ids∧∃o0,b.H[s]? =some o0∧(o=o0.forget mv∨(mv=[]∧o=o0)))):=fun s o ho=>by
    have hs:s<b.H.length:=by rw[<-hL];exact(ZG.1 ho).1
    refine⟨hs,?_⟩;rw[Qk.Qgj]at ho;rcases Qkw ho with⟨k,z,hi,hk,e⟩|⟨_,ho⟩
    ·exact .inl ⟨k,z,hi,hk,e⟩
    ·rcases Qzi ho with⟨_,e⟩|⟨hn,ho⟩
     ·exact .inr (.inl e)
     ·exact .inr (.inr ⟨hn,Qxe ho⟩)
   have hcut:∀s,s<b.H.length->U'.cut b.H.length s=U' s:=fun s hs=>by simp[Env.cut,hs]
   have hstay:∀s,s<b.H.length->s∉mv->U' s=ρ0 s:=fun s hs hn=>hf.stay s hs fun h=>hn (Qcp r3 h);have hbut:Env.Qah mv ρ0 (U'.cut b.H.length):=fun s p hs hp=>by
    have hn:s∉mv:=by simpa using hs
    rcases Nat.lt_or_ge s b.H.length with h|h
    ·rw[hcut s h,hstay s h hn];exact hp
    ·rw[hm0.fresh s (by rw[hb.len];exact h)]at hp;cases hp
   have hsame:∀s o0,s∉ids->b.H[s]? =some o0->o0.live=true->∀p b,ρ0 s=some p->p.has b->w'.heap[b]? =w0.heap[b]? :=fun s o0 hn ho hl p bb hp hbb=>by obtain⟨o',h1,h2⟩:=(hb.objs s o0 hn ho).2 hl;exact((hf.keep s o' ((ZG.1 ho).1) (fun h=>hn (Qcp r2 h)) h1 h2).2 p hp).2 bb hbb
   have himm:M0.le (M'.sealing U' s'.H b.H.length w'):=Qd.le_trans hf.imm hle;have hlive:∀(s:Nat) (o:Qb),(τ.st D ids mv b x0.2).H[s]? =some o->o.live=true->∃o':Qb,s'.H[s]? =some o'∧o'.live=true:=fun s o ho hl=>by
    obtain⟨hs,⟨k,z,h1,h2,rfl⟩|rfl|⟨hn,o0,h1,h2⟩⟩:=hobj s o ho
    ·obtain⟨o',g1,g2,_⟩:=Qq.Zac (H1:=[]) (hmem k z h1) rfl h2;exact⟨o',g1,g2⟩
    ·cases hl
    ·have hl0:o0.live=true:=by
      rcases h2 with rfl|⟨_,rfl⟩
      ·rwa[Zwl]at hl
      ·exact hl
     obtain⟨o',g1,g2⟩:=(hb.objs s o0 hn h1).2 hl0;exact(hf.keep s o' hs (fun h=>hn (Qcp r2 h)) g1 g2).1
   have hmem'':Mem (M'.sealing U' s'.H b.H.length w') (U'.cut b.H.length) (τ.st D ids mv b x0.2).H w':=by
    refine⟨fun bb o hbb=>?_,fun s o ho=>?_,fun s o p bb ho hl hp hbb=>?_,fun s s1 o o1 p p1 bb ho ho1 hl hl1 hp hp1 hbk hbk'=>?_,fun s hs=>?_,fun s o p bb ho hl hp hbb=>?_⟩
    ·cases e:M' bb with
     |some o'=>rw[hle bb o' e]at hbb;cases hbb;exact hg.mem.imm bb _ e
     |none=>exact(Qd.Kl e hbb).2
    ·obtain⟨hs,⟨k,z,h1,h2,rfl⟩|rfl|⟨hn,o0,h1,h2⟩⟩:=hobj s o ho
     ·refine Qq.Zmg hg.mem (hmem k z h1) rfl h2 hs fun q hq=>hlk q.2 ?_;have:=ZF.1 hcov1 k h1.mem;exact ZF.1 this q hq
     ·trivial
     ·have h0:=(hb.objs s o0 hn h1).1;have hnm:s∉mv:=fun h=>hn (Qcp hmv h);by_cases hl:o0.live=true
      ·have h3:=h0.forget (d:=mv) himm hbut ((hcut s hs).trans (hstay s hs hnm)) (fun p bb hp hbb=>hsame s o0 hn h1 hl p bb hp hbb);rw[Qb.Qcx]at h3;rcases h2 with rfl|⟨rfl,rfl⟩
       ·exact h3
       ·rwa[Qb.Uc]at h3
      ·have e0:=Qcc hl;subst e0;rcases h2 with rfl|⟨_,rfl⟩<;>trivial
    ·obtain⟨o',h1,h2⟩:=hlive s o ho hl;have hs:=(hobj s o ho).1;rw[hcut s hs]at hp;cases e:M'.sealing U' s'.H b.H.length w' bb with
     |none=>rfl
     |some ob=>
      obtain⟨⟨s2,o2,p2,q1,q2,q3,q4,q5⟩,_⟩:=Qd.Kl (hg.mem.seps s o' p bb h1 h2 hp hbb) e;have hl2:o2.live=true:=by cases o2<;>simp_all [Qb.Km,Qb.live]
      have:=hg.mem.diss s s2 o' o2 p p2 bb h1 q2 h2 hl2 hp q4 hbb (.inl q5);omega
    ·obtain⟨o',h1,h2⟩:=hlive s o ho hl;obtain⟨o1',k1,k2⟩:=hlive s1 o1 ho1 hl1;rw[hcut s (hobj s o ho).1]at hp;rw[hcut s1 (hobj s1 o1 ho1).1]at hp1;exact hg.mem.diss s s1 o' o1' p p1 bb h1 k1 h2 k2 hp hp1 hbk hbk'
    ·rw[hL]at hs;simp[Env.cut,Nat.not_lt.2 hs]
    ·obtain⟨o',h1,h2⟩:=hlive s o ho hl;rw[hcut s (hobj s o ho).1]at hp;exact hg.mem.lts s o' p bb h1 h2 hp hbb
   refine⟨M'.sealing U' s'.H b.H.length w',U'.cut b.H.length,⟨fun t y hy=>?_,hg.sz,hmem'',?_,fun m hm=>?_,by rw[e1,hL];exact Nat.le_refl _,fun t ht=>?_⟩,?_,rfl,rfl⟩
   ·rw[Qk.Ysx]at hy;rcases Zcq hy with⟨q,hq,rfl,rfl⟩|hy
    ·obtain⟨x,g1,g2⟩:=Zcm howns hc.1 q hq;exact Zi1 hg.mem hle g2 (hlk q.2 (ZF.1 hcov q hq)) (hg.tm q.1 x g1)
    ·rcases Zct hy with⟨a,z,hi,rfl⟩|hy
     ·have hz:=hmem _ _ hi;have hz:(match s'.T.get t with
       |some x=>rdA s'.H b.H.length a x
       |none=>none)=some (true,z):=hz
      split at hz
      ·rename_i x hx;exact Qyt hg.mem hz rfl (hg.tm t x hx)
      ·cases hz
     ·rcases Zd3 hy with rfl|⟨hn,hy⟩
      ·exact .any _
      ·obtain⟨y0,hy0,hyy⟩:=Qor hy;have hsl:=hb.slots t y0 hn hy0;have ht':a'.tmps.getD t undef=a0.tmps.getD t undef:=by rw[hg.fix t fun h=>hn (Qcp r1 h),hB t hn]
       rw[ht'];have h3:=hsl.forget (d:=mv) himm hbut;rw[SV.Qcx]at h3;rcases hyy with rfl|⟨rfl,rfl⟩
       ·exact h3
       ·rwa[SV.Uc]at h3
   ·rw[e4];have:=hg.df;rw[r4]at this;exact⟨this.1,fun i d s _ h=>by simp at h⟩
   ·rw[e4]at hm;cases hm
   ·rw[e5]at ht;exact hg.fix t fun h=>ht (Qcp r1 h)
   ·refine⟨himm,fun bb o h0 h1=>?_,fun bb hbb=>?_,hf.same,hf.grow,fun s o hs hx ho hl=>?_,fun s hs hx=>?_,hf.io⟩
    ·cases e:M' bb with
     |some o'=>exact hf.new bb o' h0 e
     |none=>obtain⟨⟨s2,o2,p2,q1,q2,q3,q4,q5⟩,_⟩:=Qd.Kl e h1;exact hf.own bb ⟨s2,o2,p2,q2,by cases o2<;>simp_all [Qb.Km,Qb.live],q4,.inl q5⟩
    ·obtain⟨s,o,p,h1,h2,h3,h4⟩:=hbb;obtain⟨o',k1,k2⟩:=hlive s o h1 h2;rw[hcut s (hobj s o h1).1]at h3;exact hf.own bb ⟨s,o',p,k1,k2,h3,h4⟩
    ·have hs2:s<(τ.st D ids mv b x0.2).H.length:=by rw[hL];exact hs
     have hns:s∉s'.tch:=fun h=>hx (Qcp r2 h);obtain⟨_,k3⟩:=hf.keep s o hs hns ho hl;refine⟨?_,fun p hp=>?_⟩
     ·obtain⟨o0,g1,g2⟩:=hb.back s o hx ho hl;have hns2:s∉τ.cells.filterMap Qq.id? :=fun h=>hx (Qcp hcov2 h);obtain⟨on,hst⟩:∃on,(τ.st D ids mv b x0.2).H[s]? =some on:=⟨_,ZN hs2⟩;refine⟨on,hst,?_⟩;have hst2:=hst;rw[Qk.Qgj]at hst2;rcases Qkw hst2 with⟨k',z',hi,hk,_⟩|⟨_,hh⟩
      ·exact absurd (Zx7 hi hk) hns2
      ·rcases Qzi hh with⟨h1,_⟩|⟨_,h2⟩
       ·exact absurd h1 hx
       ·obtain⟨o2,n1,n2⟩:=Qxe h2;rw[g1]at n1;cases n1;rcases n2 with e|⟨_,e⟩
        ·rw[e,Vv];exact g2
        ·rw[e];exact g2
     ·obtain⟨k4,k5⟩:=k3 p hp;exact⟨by rw[hcut s hs];exact k4,k5⟩
    ·rw[hcut s hs];exact hstay s hs hx
  ·cases hx
 ·cases hx
end Go.Sx
end
section
namespace Go.Sx
open Go
def gd{X:Type}:Bool->Option X->Option X
 |true,x=>x
 |false,_=>none
theorem Ym{X:Type}{c:Bool}{x:Option X}{y:X}(h:gd c x=some y):c=true∧x=some y:=by
 cases c with
 |true=>exact⟨rfl,h⟩
 |false=>cases h
def both{X:Type}(eq:X->X->Bool)(x y:Option X):Option X:=match x with
 |none=>none
 |some a=>match y with
  |none=>none
  |some b=>match eq a b with
   |true=>some a
   |false=>none
theorem Qzv{X:Type}{eq:X->X->Bool}(he:Y3 eq){x y:Option X}{v:X}(h:both eq x y=some v):x=some v∧y=some v:=by
 unfold both at h;split at h
 ·cases h
 ·split at h
  ·cases h
  ·split at h
   ·rename_i e;cases h;rw[he _ _ e];exact⟨rfl,rfl⟩
   ·cases h
abbrev KO(X:Type):=SV->List Qb->List Nat->List Nat->Option X
abbrev KX(X:Type):=Exit->St->Option X
section
variable {X:Type}
def Qo.Kn(eq:X->X->Bool)(kok:SV->Option X)(k:KO X):Qo->Option X
 |.fail=>none
 |.ok x=>kok x
 |.eff x H' t g=>k x H' t g
 |.need c r=>match c with
  |true=>r.Kn eq kok k
  |false=>none
 |.split c a b=>match c with
  |true=>a.Kn eq kok k
  |false=>b.Kn eq kok k
 |.both a b=>Sx.both eq (a.Kn eq kok k) (b.Kn eq kok k)
theorem Qo.Qel{eq:X->X->Bool}(he:Y3 eq){H:List Qb}{kok:SV->Option X}{k:KO X}{K:Qv}{y:X}(h1:∀x,kok x=some y->K x H [] [])(h2:∀x H' t g,k x H' t g=some y->K x H' t g):∀{r:Qo},r.Kn eq kok k=some y->r.holds H K
 |.fail,h=>by simp[Qo.Kn]at h
 |.ok x,h=>h1 x h
 |.eff x H' t g,h=>h2 x H' t g h
 |.need c r,h=>by
  simp only[Qo.Kn]at h;cases c with
  |true=>exact⟨rfl,Qo.Qel he h1 h2 h⟩
  |false=>cases h
 |.split c a b,h=>by
  simp only[Qo.Kn]at h;cases c with
  |true=>exact⟨fun _=>Qo.Qel he h1 h2 h,fun h=>by cases h⟩
  |false=>exact⟨fun h=>(by cases h),fun _=>Qo.Qel he h1 h2 h⟩
 |.both a b,h=>by simp only[Qo.Kn]at h;obtain⟨q1,q2⟩:=Qzv he h;exact⟨Qo.Qel he h1 h2 q1,Qo.Qel he h1 h2 q2⟩
def Qgd(ops:Array Oper)(o:Oper)(s:St)(run skip:St->Option X):Option X:=
 match o.guard with
 |none=>run s
 |some (j,want)=>match Qhx ops j with
  |none=>none
  |some d=>match s.T.get d with
   |some (.pv (.lit (.bool b)))=>match want with
    |true=>match b with
     |true=>run {s with T:=s.T.set d (.lit (.bool true))}
     |false=>skip {s with T:=s.T.set d (.lit (.bool false))}
    |false=>match b with
     |true=>skip {s with T:=s.T.set d (.lit (.bool true))}
     |false=>run {s with T:=s.T.set d (.lit (.bool false))}
   |some (.pv (.lit (.tuple _)))=>skip s
   |_=>none
theorem Qzu{ops:Array Oper}{o:Oper}{s:St}{run skip:St->Option X}{run' skip':St->Prop}{y:X}(h:Qgd ops o s run skip=some y)(hr:∀s,run s=some y->run' s)(hs:∀s,skip s=some y->skip' s):Ur ops o s run' skip':=by
 unfold Qgd at h;unfold Ur;split at h
 ·rename_i e;simp only[e];exact hr _ h
 ·rename_i j want e;simp only[e];split at h
  ·cases h
  ·rename_i d e2;simp only[e2];split at h
   ·rename_i b e3;simp only[e3];cases want<;>cases b<;>simp only[Bool.not_true,Bool.not_false]at h⊢
    ·exact⟨fun _=>hr _ h,fun h=>by cases h⟩
    ·exact⟨fun h=>(by cases h),fun _=>hs _ h⟩
    ·exact⟨fun h=>(by cases h),fun _=>hs _ h⟩
    ·exact⟨fun _=>hr _ h,fun h=>by cases h⟩
   ·rename_i e3;simp only[e3];exact hs _ h
   ·cases h
def Qo.low:Qo->Qo
 |.split c _ b=>.need (!c) b.low
 |.need c r=>.need c r.low
 |.both a b=>.both a.low b.low
 |r=>r
theorem Qo.Qnm{H:List Qb}{K:Qv}:∀{r:Qo},r.low.holds H K->r.holds H K
 |.fail,h=>h
 |.ok x,h=>h
 |.eff x H' t g,h=>h
 |.need c r,h=>⟨h.1,Qo.Qnm h.2⟩
 |.split c a b,h=>⟨fun hc=>(by have:=h.1;rw[hc]at this;cases this),fun _=>Qo.Qnm h.2⟩
 |.both a b,h=>⟨Qo.Qnm h.1,Qo.Qnm h.2⟩
def Qw2:Bool->Qo->Qo
 |true,r=>r.low
 |false,r=>r
theorem Zfe{H:List Qb}{K:Qv}{b:Bool}{r:Qo}(h:(Qw2 b r).holds H K):r.holds H K:=by
 cases b with
 |true=>exact Qo.Qnm h
 |false=>exact h
abbrev K7(X:Type):=Bool->Nat->List SV->List Qb->KO X->Option X
structure K7.Ok (cx:Cx) (cb:K7 X):Prop where
 ok:∀g args H k y,cb false g args H k=some y->(∃fn,cx.fns.lookup g=some fn)∧Xw cx.P g args H fun x H' t f=>k x H' t f=some y
 rd:∀s args H k y,cb true s args H k=some y->Qd6 cx.P s args H fun x H' t f=>k x H' t f=some y
def opO(eq:X->X->Bool)(cx:Cx)(cb:K7 X)(ev:Operand->SV)(H:List Qb)(o:Oper)(kok:SV->Option X)(k:KO X):Option X:=
 match Qe2 o.op with
 |some c=>match Qkz ev c with
  |some (s,args)=>cb true s args H k
  |none=>match target ev c with
   |none=>none
   |some (g,args)=>cb false g args H k
 |none=>(Qw2 cx.low (sop cx.P cx.tab H ev o)).Kn eq kok k
theorem Zb2{eq:X->X->Bool}(he:Y3 eq){cx:Cx}{cb:K7 X}(hcb:cb.Ok cx){ev:Operand->SV}{H:List Qb}{o:Oper}{kok:SV->Option X}{k:KO X}{K:Qv}{y:X}(h1:∀x,kok x=some y->K x H [] [])(h2:∀x H' t g,k x H' t g=some y->K x H' t g)
  (h:opO eq cx cb ev H o kok k=some y):opP cx ev H o K:=by
 unfold opO at h;unfold opP;cases hc:Qe2 o.op with
 |none=>simp only[hc]at h⊢;exact Zfe (Qo.Qel he h1 h2 h)
 |some c=>
  simp only[hc]at h⊢;cases hy:Qkz ev c with
  |some q=>obtain⟨s,args⟩:=q;simp only[hy]at h⊢;exact(hcb.rd s args H k y h).mono h2
  |none=>
   simp only[hy]at h⊢;cases ht:target ev c with
   |none=>simp only[ht]at h;cases h
   |some q=>obtain⟨g,args⟩:=q;simp only[ht]at h⊢;obtain⟨⟨fn,hf⟩,h3⟩:=hcb.ok g args H k y h;simp only[hf];exact h3.mono h2
def Qft(eq:X->X->Bool)(cx:Cx)(cb:K7 X)(nt:Nat)(ops:Array Oper):List Oper->St->(St->Option X)->Option X
 |[],s,k=>k s
 | o :: rest,s,k=>Qgd ops o s
   (fun s'=>gd (Vy o.op&&J1 nt o.dst) (opO eq cx cb s'.ev s'.H o (fun x=>Qft eq cx cb nt ops rest (s'.put o.dst x) k) fun x H t f=>gd (Qd7 s' nt o.dst H f) (Qft eq cx cb nt ops rest (s'.step o.dst x H t f) k)))
   (fun s'=>gd (J1 nt o.dst) (Qft eq cx cb nt ops rest (s'.put o.dst (.lit undef)) k))
theorem Qmy{eq:X->X->Bool}(he:Y3 eq){cx:Cx}{cb:K7 X}(hcb:cb.Ok cx){nt:Nat}{ops:Array Oper}{y:X}:∀(l:List Oper) (s:St) (k:St->Option X),Qft eq cx cb nt ops l s k=some y->Qcv cx nt ops l s fun s'=>k s'=some y
 |[],s,k,h=>h
 |o::rest,s,k,h=>by
  unfold Qft at h;unfold Qcv;refine Qzu h (fun s' h=>?_) (fun s' h=>?_)
  ·obtain⟨h0,h⟩:=Ym h;rw[ZA]at h0;refine⟨h0.1,Zb2 he hcb (fun x hx=>.inl ⟨h0.2,rfl,rfl,rfl,Qmy he hcb rest _ k hx⟩) (fun x H t f h=>?_) h⟩;obtain⟨h1,h⟩:=Ym h;exact .inr ⟨h1,Qmy he hcb rest _ k h⟩
  ·obtain⟨h0,h⟩:=Ym h;exact⟨h0,Qmy he hcb rest _ k h⟩
def Qtz:Qfu->Bool
 |.stop=>true
 |_=>false
def J3(eq:X->X->Bool)(cx:Cx)(cb:K7 X)(nt:Nat)(ops:Array Oper):Qfu->List (Nat×List Nat)->St->(St->Option X)->Option X
 |.done,pend,s,k=>k s
 |.bad,pend,s,k=>none
 |.stop,pend,s,k=>none
 |.take i o p,pend,s,k=>gd (J1 nt o.dst) (Qgd ops o s
   (fun s'=>gd ((Ut s'.ev o).all (Qgs s'.H) && hdyn (Ut s'.ev o) s'.ev o)
    ((Qw2 cx.low (sop cx.P cx.tab s'.H s'.ev o)).Kn eq (fun x=>J3 eq cx cb nt ops p (Qi1 i (Ut s'.ev o) pend) (s'.put o.dst x) k) fun x _ _ _=>J3 eq cx cb nt ops p (Qi1 i (Ut s'.ev o) pend) (s'.put o.dst x) k))
   (fun s'=>J3 eq cx cb nt ops p pend (s'.put o.dst (.lit undef)) k))
 |.alt o p rest,pend,s,k=>
  match Qtz rest with
  |true=>Qgd ops o s
   (fun s'=>gd (Vy o.op&&J1 nt o.dst) (opO eq cx cb s'.ev s'.H o (fun x=>J3 eq cx cb nt ops p (Ve o pend) (s'.put o.dst x) k) fun x H t f=>gd (Qd7 s' nt o.dst H f&&keeps o pend t f) (J3 eq cx cb nt ops p (Ve o pend) (s'.step o.dst x H t f) k)))
   (fun s'=>gd (J1 nt o.dst) (J3 eq cx cb nt ops p (Ve o pend) (s'.put o.dst (.lit undef)) k))
  |false=>both eq (Qgd ops o s
   (fun s'=>gd (Vy o.op&&J1 nt o.dst) (opO eq cx cb s'.ev s'.H o (fun x=>J3 eq cx cb nt ops p (Ve o pend) (s'.put o.dst x) k) fun x H t f=>gd (Qd7 s' nt o.dst H f&&keeps o pend t f) (J3 eq cx cb nt ops p (Ve o pend) (s'.step o.dst x H t f) k)))
   (fun s'=>gd (J1 nt o.dst) (J3 eq cx cb nt ops p (Ve o pend) (s'.put o.dst (.lit undef)) k))) (J3 eq cx cb nt ops rest pend s k)
theorem Qea{eq:X->X->Bool}(he:Y3 eq){cx:Cx}{cb:K7 X}(hcb:cb.Ok cx){nt:Nat}{hl:Bool}{ops:Array Oper}{k:St->Option X}{y:X}:
  ∀(fuel:Nat) (listed:Array Bool) (R:List (Nat×List Nat)) (s:St),J3 eq cx cb nt ops (K3 hl ops fuel listed) R s k=some y->Vp cx nt hl ops fuel listed R s fun s'=>k s'=some y
 |0,listed,R,s,h=>by
  unfold K3 at h;unfold Vp;split at h
  ·rename_i e;exact⟨e,h⟩
  ·cases h
 |n+1,listed,R,s,h=>by
  unfold K3 at h;unfold Vp;cases hp:Qvm hl ops listed with
  |some i=>
   simp only[hp]at h⊢;cases ho:ops[i]? with
   |none=>simp only[ho]at h;cases h
   |some o=>simp only[ho,J3]at h⊢;obtain⟨h0,h⟩:=Ym h;refine⟨h0,Qzu h (fun s' h=>?_) (fun s' h=>Qea he hcb n _ R _ h)⟩;obtain⟨h1,h⟩:=Ym h;exact⟨h1,Zfe (Qo.Qel he (fun x h=>Qea he hcb n _ _ _ h) (fun x _ _ _ h=>Qea he hcb n _ _ _ h) h)⟩
  |none=>
   simp only[hp]at h⊢;cases hr:Region.ready .any ops listed with
   |nil=>simp only[hr]at h;exact h
   |cons r rs=>
    simp only[hr]at h;have one:∀(i:Nat) (o:Oper),Qgd ops o s
      (fun s'=>gd (Vy o.op&&J1 nt o.dst) (opO eq cx cb s'.ev s'.H o (fun x=>J3 eq cx cb nt ops (K3 hl ops n (listed.setIfInBounds i true)) (Ve o R) (s'.put o.dst x) k) fun x H t f=>gd (Qd7 s' nt o.dst H f&&keeps o R t f) (J3 eq cx cb nt ops (K3 hl ops n (listed.setIfInBounds i true)) (Ve o R) (s'.step o.dst x H t f) k)))
      (fun s'=>gd (J1 nt o.dst) (J3 eq cx cb nt ops (K3 hl ops n (listed.setIfInBounds i true)) (Ve o R) (s'.put o.dst (.lit undef)) k))=some y->
      Ur ops o s
       (fun s'=>Vy o.op=true∧opP cx s'.ev s'.H o fun x H tch fg=>(keeps o R tch fg=true∧s'.adv nt o.dst (fun s''=>Vp cx nt hl ops n (listed.setIfInBounds i true) (Ve o R) s'' fun s'=>k s'=some y) x H tch fg))
       (fun s'=>J1 nt o.dst=true∧Vp cx nt hl ops n (listed.setIfInBounds i true) (Ve o R) (s'.put o.dst (.lit undef)) fun s'=>k s'=some y):=by
     intro i o h;refine Qzu h (fun s' h=>?_) (fun s' h=>?_)
     ·obtain⟨h0,h⟩:=Ym h;rw[ZA]at h0;refine⟨h0.1,Zb2 he hcb (fun x hx=>⟨Ycb o R,.inl ⟨h0.2,rfl,rfl,rfl,Qea he hcb n _ _ _ hx⟩⟩) (fun x H t f h=>?_) h⟩;obtain⟨h1,h⟩:=Ym h;rw[ZA]at h1;exact⟨h1.2,.inr ⟨h1.1,Qea he hcb n _ _ _ h⟩⟩
     ·obtain⟨h0,h⟩:=Ym h;exact⟨h0,Qea he hcb n _ _ _ h⟩
    have all:∀(l:List Nat),l≠[]->J3 eq cx cb nt ops (Qfb ops (fun i=>K3 hl ops n (listed.setIfInBounds i true)) l) R s k=some y->∀i∈l,match ops[i]? with
     |none=>False
     | some o=>Ur ops o s
       (fun s'=>Vy o.op=true∧opP cx s'.ev s'.H o fun x H tch fg=>(keeps o R tch fg=true∧s'.adv nt o.dst (fun s''=>Vp cx nt hl ops n (listed.setIfInBounds i true) (Ve o R) s'' fun s'=>k s'=some y) x H tch fg))
       (fun s'=>J1 nt o.dst=true∧Vp cx nt hl ops n (listed.setIfInBounds i true) (Ve o R) (s'.put o.dst (.lit undef)) fun s'=>k s'=some y):=by
     intro l;induction l with
     |nil=>intro h;exact absurd rfl h
     |cons j l ih=>
      intro _ h i hi;unfold Qfb at h;cases ho:ops[j]? with
      |none=>simp only[ho]at h;cases h
      |some o=>
       simp only[ho,J3]at h;cases l with
       |nil=>
        simp only[Qfb,Qtz]at h;rcases ZI.1 hi with rfl|hi
        ·simp only[ho];exact one i o h
        ·cases hi
       |cons j2 l2=>
        have hst:Qtz (Qfb ops (fun i=>K3 hl ops n (listed.setIfInBounds i true)) (j2::l2))=false:=by unfold Qfb;cases ops[j2]? <;>rfl
        simp only[hst]at h;obtain⟨h1,h2⟩:=Qzv he h;rcases ZI.1 hi with rfl|hi
        ·simp only[ho];exact one i o h1
        ·exact ih (by simp) h2 i hi
    exact all _ (by simp) h
end
end Go.Sx
end
namespace Go.Sx
open Go
def Qip(a b:Nat):Bool:=decide (a=b)
theorem Qua:Y3 Qip:=fun a b h=>of_decide_eq_true h
def Ji.eqv:(l:PL)->Ji l->Ji l->Bool
 |[]=>Qhm
 |[p]=>p.2.eqv
 |p::p'::l=>W9 p.2.eqv (Ji.eqv (p'::l))
theorem Ji.eqv_ok:∀(l:PL),Y3 (Ji.eqv l)
 |[]=>fun a b h=>rfl
 |[p]=>Qe.eqv_ok p.2
 |p::p'::l=>Qew (Qe.eqv_ok p.2) (Ji.eqv_ok (p'::l))
def Qq.eqv:(c:Qq)->c.El->c.El->Bool
 |.slot _ a=>a.eqv
 |.vec _ _ row=>Wp (Qj.eqv row)
 |.one _ _ row=>Qj.eqv row
 |.mix _ _ _ dat _=>Ji.eqv dat
 |.map _ k v=>Wp (W9 k.eqv v.eqv)
 |.iter _=>W9 Qc Qip
 |.over _ _=>Qhm
 |.nest _ _ _ row=>Wp (Wp (Qj.eqv row))
 |.fix _ _ _=>Qhm
 |.mit _ _=>W9 Qip (Wp Qip)
theorem Qq.eqv_ok:∀(c:Qq),Y3 c.eqv
 |.slot _ a=>Qe.eqv_ok a
 |.vec _ _ row=>Qec (Qj.eqv_ok row)
 |.one _ _ row=>Qj.eqv_ok row
 |.mix _ _ _ dat _=>Ji.eqv_ok dat
 |.map _ k v=>Qec (Qew (Qe.eqv_ok k) (Qe.eqv_ok v))
 |.iter _=>Qew Qqh Qua
 |.over _ _=>fun a b h=>rfl
 |.nest _ _ _ row=>Qec (Qec (Qj.eqv_ok row))
 |.fix _ _ _=>fun a b h=>rfl
 |.mit _ _=>Qew Qua (Qec Qua)
def Yi.eqv:(l:List Qq)->Yi l->Yi l->Bool
 |[]=>Qhm
 |[c]=>c.eqv
 |c::c'::l=>W9 c.eqv (Yi.eqv (c'::l))
theorem Yi.eqv_ok:∀(l:List Qq),Y3 (Yi.eqv l)
 |[]=>fun a b h=>rfl
 |[c]=>Qq.eqv_ok c
 |c::c'::l=>Qew (Qq.eqv_ok c) (Yi.eqv_ok (c'::l))
abbrev Xq:=List (Exit×Qk)
def Zv:Xq->Type
 |[]=>Empty
 |[a]=>a.2.El
 |a::a'::l=>a.2.El ⊕ Zv (a'::l)
def Zv.eqv:(l:Xq)->Zv l->Zv l->Bool
 |[]=>fun _ _=>true
 |[a]=>Yi.eqv a.2.cells
 |a::a'::l=>Qcd (Yi.eqv a.2.cells) (Zv.eqv (a'::l))
theorem Zv.eqv_ok:∀(l:Xq),Y3 (Zv.eqv l)
 |[]=>fun a b h=>by cases a
 |[a]=>Yi.eqv_ok _
 |a::a'::l=>Qkg (Yi.eqv_ok _) (Zv.eqv_ok (a'::l))
def Qq7:Exit->Exit->Bool
 |.normal,.normal=>true
 |.ret,.ret=>true
 |.exit a,.exit b=>ZB a b
 |_,_=>false
theorem Zdm{a b:Exit}(h:Qq7 a b=true):a=b:=by unfold Qq7 at h;split at h<;>first|rfl|(rw[C h];done)|cases h
structure Y7 where
 D:List Nat
 ids:List Nat
 mv:List Nat
def Y7.of(f:Y7)(τ:Qk):List Nat:=τ.Qz6++f.ids
def Qf1(τ:Qk)(D ids mv:List Nat)(n:Nat)(s:St):Option τ.El:=gd (s.reads D ids mv n) (match τ.read n s with
 |some (c,x)=>gd c (some x)
 |none=>none)
def Vc(τ:Qk)(f:Y7)(n:Nat)(s:St):Option τ.El:=Qf1 τ f.D (f.of τ) f.mv n s
theorem Qt5{τ:Qk}{D ids mv:List Nat}{n:Nat}{s:St}{x:τ.El}(h:Qf1 τ D ids mv n s=some x):s.reads D ids mv n=true∧∃c,c=true∧τ.read n s=some (c,x):=by
 obtain⟨h1,h2⟩:=Ym h;refine⟨h1,?_⟩;split at h2
 ·rename_i c y e;obtain⟨h3,h4⟩:=Ym h2;cases h4;exact⟨c,h3,e⟩
 ·cases h2
theorem Qai{τ:Qk}{f:Y7}{n:Nat}{s:St}{x:τ.El}(h:Vc τ f n s=some x):s.reads f.D (f.of τ) f.mv n=true∧∃c,c=true∧τ.read n s=some (c,x):=Qt5 h
def K9(f:Y7)(n:Nat):(l:Xq)->Exit->St->Option (Zv l)
 |[],_,_=>none
 |[a],e,s=>match Qq7 a.1 e with
  |true=>Vc a.2 f n s
  |false=>none
 |a::a'::l,e,s=>match Qq7 a.1 e with
  |true=>match Vc a.2 f n s with
   |some x=>some (.inl x)
   |none=>none
  |false=>match K9 f n (a'::l) e s with
   |some x=>some (.inr x)
   |none=>none
def Jb(f:Y7)(b:St):(l:Xq)->Zv l->Exit×St
 |[],x=>Empty.elim x
 |[a],x=>(a.1,a.2.st f.D (f.of a.2) f.mv b x)
 |a::a'::l,.inl x=>(a.1,a.2.st f.D (f.of a.2) f.mv b x)
 |a::a'::l,.inr x=>Jb f b (a'::l) x
def Qiy{A:Type}(f:Y7)(b:St):(l:Xq)->Zv l->(Exit->St->A)->A
 |[],x,_=>Empty.elim x
 |[a],x,k=>k a.1 (a.2.st f.D (f.of a.2) f.mv b x)
 |a::a'::l,x,k=>match x with
  |.inl x=>k a.1 (a.2.st f.D (f.of a.2) f.mv b x)
  |.inr x=>Qiy f b (a'::l) x k
theorem Qh8{A:Type}{f:Y7}{b:St}:∀{l:Xq} (x:Zv l) (k:Exit->St->A),Qiy f b l x k=k (Jb f b l x).1 (Jb f b l x).2
 |[],x,_=>Empty.elim x
 |[a],x,k=>rfl
 |a::a'::l,.inl x,k=>rfl
 |a::a'::l,.inr x,k=>Qh8 (l:=a'::l) x k
def Y7.ok(f:Y7):Bool:=subset f.mv f.ids
theorem Qa5{f:Y7}{τ:Qk}(h:f.ok=true):subset f.mv (f.of τ)=true:=by unfold Y7.ok subset at h;unfold subset Y7.of;rw[ZF]at h⊢;intro x hx;have:=h x hx;simp only[List.contains_iff_mem,List.mem_append]at this⊢;exact .inr this
def K6(f:Y7)(l:Xq):Bool:=l.all fun a=>a.2.W7 (f.of a.2)
theorem Qlg{f:Y7}{n:Nat}{b:St}:∀{l:Xq} {e:Exit} {s:St} {x:Zv l},K6 f l=true->K9 f n l e s=some x->
  ∃(τ:Qk) (z:τ.El),τ.W7 (f.of τ)=true∧Vc τ f n s=some z∧Jb f b l x=(e,τ.st f.D (f.of τ) f.mv b z)
 |[],e,s,x,hok,h=>by cases h
 |[a],e,s,x,hok,h=>by
  simp only[K9]at h;split at h
  ·rename_i he;refine⟨a.2,x,by simpa[K6]using hok,h,?_⟩;simp only[Jb,Zdm he]
  ·cases h
 |a::a'::l,e,s,x,hok,h=>by
  have hok':a.2.W7 (f.of a.2)=true∧K6 f (a'::l)=true:=by simp only[K6,List.all_cons,ZA]at hok⊢;exact hok
  simp only[K9]at h;split at h
  ·rename_i he;split at h
   ·rename_i z hz;cases h;exact⟨a.2,z,hok'.1,hz,by simp only[Jb,Zdm he]⟩
   ·cases h
  ·split at h
   ·rename_i z hz;cases h;obtain⟨τ,w,h1,h2,h3⟩:=Qlg (b:=b) hok'.2 hz;exact⟨τ,w,h1,h2,h3⟩
   ·cases h
def St.sub(s:St):St:={T:=s.T,H:=s.H,n0:=s.H.length,tch:=[],fg:=[],marks:=[],er:=[]}
def St.outer(s s1:St):St:={T:=s1.T,H:=s1.H,n0:=s.n0,tch:=Xy s.n0 s1.tch s.tch,fg:=Xy s.n0 s1.fg s.fg,marks:=[],er:=s1.er++s.er}
def Qb2(a:Act):Nat->Value:=fun t=>a.tmps.getD t undef
theorem Qrs{B:Nat->Value}{nt:Nat}{M:Qd}{U:Env}{s:St}{a:Act}{w:World}(hg:Good B nt M U s a w)(hm:s.marks=[]):Good (Qb2 a) nt M U s.sub a w:=
 ⟨hg.tm,hg.sz,hg.mem,(by have:=hg.df;rw[hm]at this;exact this),(fun m h=>by cases h),Nat.le_refl _,fun t _=>rfl⟩
theorem Qpr{B:Nat->Value}{nt:Nat}{M:Qd}{U:Env}{s:St}{a:Act}{w:World}(hg:Good B nt M U s a w)(D ids mv:List Nat):Qpn D ids mv s M U s.H a w:=
 ⟨rfl,fun t y _ hy=>(hg.tm t y hy).forget M.le_refl (fun _ _ _ h=>h),fun i o _ ho=>⟨(hg.mem.own i o ho).forget M.le_refl (fun _ _ _ h=>h) rfl (fun _ _ _ _=>rfl),fun hl=>⟨o,ho,hl⟩⟩,fun i o _ ho hl=>⟨o,ho,hl⟩⟩
theorem Qsl{B:Nat->Value}{nt:Nat}{M M':Qd}{U U':Env}{s s1:St}{a a':Act}{w w':World}{ids mv:List Nat}(hg:Good B nt M U s a w)(hm:s.marks=[])(h1:Good (Qb2 a) nt M' U' s1 a' w')
  (hf:Fr M U s.H w M' U' s1.H w' s.H.length ids mv) (hn:s1.n0=s.H.length) (ht:s1.tch=ids) (hv:s1.fg=mv) (hk:s1.marks=[]):
  Good B nt M' U' (s.outer s1) a' w'∧Yx M U s w M' U' (s.outer s1) w':=by
 refine⟨⟨h1.tm,h1.sz,h1.mem,by have:=h1.df;rw[hk]at this;exact this,fun m h=>by(cases h),?_,fun t ht=>?_⟩,?_,rfl,fun x hx=>Qfl hx,fun x hx=>Qfl hx⟩
 ·show s.n0<=s1.H.length;have:=h1.nle;rw[hn]at this;exact Nat.le_trans hg.nle this
 ·have ht':t∉s1.er∧t∉s.er:=by have:t∉s1.er++s.er:=ht;simpa using this
  rw[h1.fix t ht'.1];exact hg.fix t ht'.2
 ·exact hf.weaken hg.nle (fun x hx h=>Qfh hx (by rw[ht];exact h)) (fun x hx h=>Qfh hx (by rw[hv];exact h))
theorem Yiu{R:Option Nat}{P:Program}{nt:Nat}{c:Code}{Q:Exit->St->Prop}{s:St}{f:Y7}{l:Xq}{x:Zv l}(hm:s.marks=[])(hf:f.ok=true)(hl:K6 f l=true)
  (h:Zj R P nt c (fun e s'=>K9 f s.H.length l e s'=some x) s.sub) (hq:Q (Jb f s l x).1 (s.outer (Jb f s l x).2)):Zj R P nt c Q s:=by
 intro B M U a w hg;refine wpIn_mono (h (Qb2 a) M U a w (Qrs hg hm)) ?_
 rintro e a' w' ⟨M',U',s',hr,g,go⟩
 obtain⟨τ,z,h1,h2,h3⟩:=Qlg (b:=s) hl hr;obtain⟨r1,c,hc,r2⟩:=Qai h2;obtain⟨M'',U'',g1,g2,_⟩:=K4 (b:=s) (H0:=s.H) (M0:=M) (ρ0:=U) (a0:=a) (w0:=w) (fun _ _=>rfl) (Qpr hg _ _ _) hg.mem g go.fr (Qa5 hf) h1 r1 r2 hc;obtain⟨e1,e2,e3,e4,e5⟩:=Qk.Qek τ f.D (f.of τ) f.mv s z;obtain⟨k1,k2⟩:=Qsl hg hm g1 g2 e1 e2 e3 e4;rw[h3]at hq;exact⟨M'',U'',_,hq,k1,k2⟩
def Qx{O β:Type}(step:O->Option (O ⊕ β)):Nat->O->Option β
 |0,_=>none
 |n+1,x=>match step x with
  |none=>none
  |some (.inl y)=>Qx step n y
  |some (.inr b)=>some b
def U3(f:Y7)(n:Nat)(τ:Qk)(l:Xq)(e:Exit)(s:St):Option (τ.El ⊕ Zv l):=match e with
 |.normal=>match Vc τ f n s with
  |some x=>some (.inl x)
  |none=>none
 |e=>match K9 f n l e s with
  |some x=>some (.inr x)
  |none=>none
theorem Ykj{R:Option Nat}{P:Program}{nt:Nat}{c:Code}{Q:Exit->St->Prop}{s:St}{f:Y7}{τ:Qk}{l:Xq}{F:Nat}{x0:τ.El}{y:Zv l}{step:τ.El->Option (τ.El ⊕ Zv l)}
  (hm:s.marks=[]) (hf:f.ok=true) (hl:K6 f l=true) (hτ:τ.W7 (f.of τ)=true)
  (hstep:∀x r,step x=some r->Zj R P nt c (fun e s'=>U3 f s.H.length τ l e s'=some r) (τ.st f.D (f.of τ) f.mv s x))
  (h0:Vc τ f s.H.length s.sub=some x0) (hrun:Qx step F x0=some y) (hne:(Jb f s l y).1≠.normal) (hq:Q (Jb f s l y).1 (s.outer (Jb f s l y).2)):Zj R P nt (.loop c) Q s:=by
 intro B M U a w hg;have gs:=Qrs hg hm;have hbase:=fun ids=>Qpr hg f.D ids f.mv;let J:Nat->Act->World->Prop:=fun n a' w'=>∃M' U' x,Qx step n x=some y∧Good (Qb2 a) nt M' U' (τ.st f.D (f.of τ) f.mv s x) a' w'∧Fr M U s.H w M' U' (τ.st f.D (f.of τ) f.mv s x).H w' s.H.length (f.of τ) f.mv;refine wpIn_loop (fun a w=>∃n,J n a w) (fun a w=>leastOf (fun n=>J n a w)) ?_ ?_
 ·obtain⟨r1,c',hc,r2⟩:=Qai h0;obtain⟨M'',U'',g1,g2,_⟩:=K4 (b:=s) (H0:=s.H) (M0:=M) (ρ0:=U) (a0:=a) (w0:=w) (fun _ _=>rfl) (hbase _) hg.mem gs (Fr.refl ..) (Qa5 hf) hτ r1 r2 hc;exact⟨F,M'',U'',x0,hrun,g1,g2⟩
 ·intro a1 w1 hI;obtain⟨hJ,hmin⟩:=leastOf_spec hI;obtain⟨M1,ρ1,x,hx,g1,f1⟩:=hJ;generalize hn:leastOf (fun n=>J n a1 w1)=n at hx hmin;cases n with
  |zero=>cases hx
  |succ n=>
   simp only[Qx]at hx;cases hs:step x with
   |none=>simp only[hs]at hx;cases hx
   |some r=>
    refine wpIn_mono (hstep x r hs (Qb2 a) M1 ρ1 a1 w1 g1) ?_
    rintro e a2 w2 ⟨M2,ρ2,s2,hk,g2,go2⟩
    obtain⟨e1,e2,e3,e4,e5⟩:=Qk.Qek τ f.D (f.of τ) f.mv s x;have f2:Fr M U s.H w M2 ρ2 s2.H w2 s.H.length s2.tch s2.fg:=by have hfr:=go2.fr;rw[e1]at hfr;exact f1.trans hfr (fun z hz=>go2.tch z (by rw[e2];exact hz)) (fun z hz=>hz) (fun z hz=>go2.fg z (by rw[e3];exact hz)) (fun z hz=>hz)
    unfold U3 at hk;cases e with
    |normal=>
     simp only at hk;split at hk
     ·rename_i z hz;cases hk;simp only[hs]at hx;obtain⟨r1,c',hc,r2⟩:=Qai hz;obtain⟨M'',U'',k1,k2,_⟩:=K4 (b:=s) (H0:=s.H) (M0:=M) (ρ0:=U) (a0:=a) (w0:=w) (fun _ _=>rfl) (hbase _) hg.mem g2 f2 (Qa5 hf) hτ r1 r2 hc;have hx':J n a2 w2:=⟨M'',U'',z,hx,k1,k2⟩;show(∃n,J n a2 w2)∧leastOf (fun n=>J n a2 w2)<n+1;exact⟨⟨n,hx'⟩,ZR ((leastOf_spec ⟨n,hx'⟩).2 n hx')⟩
     ·cases hk
    |_=>
     simp only at hk;split at hk
     ·rename_i z hz;cases hk;simp only[hs,ZJ]at hx;subst hx;obtain⟨τ',z',h1,h2,h3⟩:=Qlg (b:=s) hl hz;obtain⟨r1,c',hc,r2⟩:=Qai h2;obtain⟨M'',U'',k1,k2,_⟩:=K4 (b:=s) (H0:=s.H) (M0:=M) (ρ0:=U) (a0:=a) (w0:=w) (fun _ _=>rfl) (hbase _) hg.mem g2 f2 (Qa5 hf) h1 r1 r2 hc;obtain⟨q1,q2,q3,q4,q5⟩:=Qk.Qek τ' f.D (f.of τ') f.mv s z';obtain⟨m1,m2⟩:=Qsl hg hm k1 k2 q1 q2 q3 q4;rw[h3]at hq;exact⟨M'',U'',_,hq,m1,m2⟩
     ·cases hk
def Qmw(s:St)(slot ty:Nat)(row:List Ty):St:=
 {T:=s.T.set slot (.sl s.H.length row.length 0 0),H:=s.H++[.tvec ty row []],n0:=s.n0,tch:=s.tch,fg:=s.fg,marks:=s.marks,er:=s.er}
theorem Zrl{R:Option Nat}{P:Program}{nt:Nat}{c:Code}{Q:Exit->St->Prop}{s:St}{slot ty:Nat}{row:List Ty}{v:Value}(hs:s.T.get slot=some (.lit v))(hv:Value.isNil v=true)
  (h:Zj R P nt c Q (Qmw s slot ty row)):Zj R P nt c Q s:=by
 refine Zj.Qem (fun B M U a w hg=>⟨U,?_,?_⟩) h
 ·obtain⟨m1,m2⟩:=hg.mem.virt (ty:=ty) (sz:=row.length);refine⟨fun t y hy=>?_,hg.sz,?_,hg.df,hg.mks,by show s.n0<=(s.H++[Qb.tvec ty row []]).length;have:=hg.nle;simp;omega,hg.fix⟩
  ·rcases TT.W6 _ _ _ _ _ hy with⟨rfl,rfl⟩|⟨_,hy⟩
   ·have:=(hg.tm _ _ hs).Zt;rw[this];unfold Value.isNil at hv;split at hv
    ·simp only[ZA]at hv;rw[C hv.1,C hv.2];exact .slz _ _ _ _
    ·cases hv
   ·exact hg.tm t y hy
  ·have:=m1.described (s:=s.H.length) (o:=.vec ty row.length []) (o':=.tvec ty row []) (by simp) rfl (fun h=>h);simpa[Qmw]using this
 ·obtain⟨m1,m2⟩:=hg.mem.virt (ty:=ty) (sz:=row.length);have m3:=m2.described (s:=s.H.length) (o:=.vec ty row.length []) (o':=.tvec ty row []) (by simp) rfl;refine⟨?_,rfl,fun _ h=>h,fun _ h=>h⟩;have m4:=m3.weaken (n':=s.n0) (t':=s.tch) (f':=s.fg) hg.nle (fun x _ h=>by cases h) (fun x _ h=>by cases h);simpa[Qmw]using m4
def Qda(F:Fence)(n:Nat)(P:Program)(c:Code)(Q:Exit->Act->World->Prop)(a:Act)(w:World):Prop:=
 ∀(b:Frame) (k:List Item) (cs:List Frame),b.roundOf=F.round->F.fn b.fn->F.room (cs.length+1+n)->
  ∃e a' w',Q e a' w'∧ArrivesIn (Machine.fenced P F) P (lone (b.atR a (.code c::.inLoop c::k)) cs w) b k cs e a' w'
theorem Qda.wp{F:Fence}{n:Nat}{P:Program}{c:Code}{Q:Exit->Act->World->Prop}{a:Act}{w:World}(h:Qda F n P c Q a w):(Code.loop c).wpIn F n P Q a w:=by intro b k cs hro hb hr;obtain⟨e,a',w',hq,harr⟩:=h b k cs hro hb hr;exact⟨e,a',w',hq,.of_steps (.one (fenced_calm hb hr rfl) stepR_loop) harr⟩
theorem Qda.mono{F:Fence}{n:Nat}{P:Program}{c:Code}{Q Q':Exit->Act->World->Prop}{a:Act}{w:World}(h:Qda F n P c Q a w)(hq:∀e a w,Q e a w->Q' e a w):Qda F n P c Q' a w:=
 fun b k cs hro hb hr=>let⟨e,a',w',q,r⟩:=h b k cs hro hb hr;⟨e,a',w',hq _ _ _ q,r⟩
theorem Zyo{F:Fence}{n:Nat}{P:Program}{c:Code}{Q:Exit->Act->World->Prop}{a:Act}{w:World}(I:Act->World->Prop)(μ:Act->World->Nat)(h₀:I a w)
  (round:∀a w,I a w->c.wpIn F n P (Exit.then (fun a' w'=>(I a' w'∧μ a' w'<μ a w)∨Qda F n P c Q a' w') Q) a w):Qda F n P c Q a w:=by
 intro b k cs hro hb hr;have key:∀j a w,μ a w=j->I a w->
   ∃e a' w',Q e a' w'∧ArrivesIn (Machine.fenced P F) P (lone (b.atR a (.code c::.inLoop c::k)) cs w) b k cs e a' w':=by
  intro j;induction j using Nat.strongRecOn with
  |_ j ih=>
   intro a w hn hI;obtain⟨e,a₁,w₁,hq,harr⟩:=round a w hI b (.inLoop c::k) cs hro hb hr;cases e with
   |normal=>
    rcases hq with⟨hI₁,hlt⟩|hL
    ·obtain⟨e₂,a₂,w₂,hq₂,harr₂⟩:=ih (μ a₁ w₁) (hn▸hlt) a₁ w₁ rfl hI₁;exact⟨e₂,a₂,w₂,hq₂,.of_steps (StepsIn.trans harr (.one (fenced_calm hb hr rfl) stepR_inLoop)) harr₂⟩
    ·obtain⟨e₂,a₂,w₂,hq₂,harr₂⟩:=hL b k cs hro hb hr;exact⟨e₂,a₂,w₂,hq₂,.of_steps (StepsIn.trans harr (.one (fenced_calm hb hr rfl) stepR_inLoop)) harr₂⟩
   |exit id=>exact⟨_,a₁,w₁,hq,.pass (x:=.inLoop c) rfl (fun _ _=>.inl (by simp)) harr⟩
   |goto l=>exact⟨_,a₁,w₁,hq,.pass (x:=.inLoop c) rfl (fun _ _=>.inl (by simp)) harr⟩
   |ret=>exact⟨_,a₁,w₁,hq,.pass (x:=.inLoop c) rfl (fun _ _=>.inl (by simp)) harr⟩
   |panic ch=>exact⟨_,a₁,w₁,hq,.pass (x:=.inLoop c) rfl (fun _ _=>.inl (by simp)) harr⟩
   |outgrown=>exact⟨_,a₁,w₁,hq,.pass (x:=.inLoop c) rfl (fun _ _=>.inl (by simp)) harr⟩
 exact key _ a w rfl h₀
def Qik(R:Option Nat)(P:Program)(nt:Nat)(c:Code)(Q:Exit->St->Prop)(s:St):Prop:=
 ∀B M U a w,Good B nt M U s a w->Qda (FW R) 0 P c (fun e a' w'=>∃M' U' s',Q e s'∧Good B nt M' U' s' a' w'∧Yx M U s w M' U' s' w') a w
theorem Qik.wp{R:Option Nat}{P:Program}{nt:Nat}{c:Code}{Q:Exit->St->Prop}{s:St}(h:Qik R P nt c Q s):Zj R P nt (.loop c) Q s:=fun B M U a w hg=>(h B M U a w hg).wp
def Qx5(f:Y7)(n:Nat)(τ:Qk)(l:Xq)(e:Exit)(s:St):Option (τ.El ⊕ Zv l):=match e with
 |.normal=>match Vc τ f n s with
  |some x=>some (.inl x)
  |none=>match K9 f n l .normal s with
   |some x=>some (.inr x)
   |none=>none
 |e=>match K9 f n l e s with
  |some x=>some (.inr x)
  |none=>none
theorem Yhu{f:Y7}{n:Nat}{τ:Qk}{l:Xq}{e:Exit}{s:St}{r:τ.El ⊕ Zv l}(h:Qx5 f n τ l e s=some r):(∃x,r=.inl x∧e=.normal∧Vc τ f n s=some x)∨∃z,r=.inr z∧K9 f n l e s=some z:=by
 unfold Qx5 at h;cases e with
 |normal=>
  simp only at h;split at h
  ·rename_i x hx;cases h;exact .inl ⟨x,rfl,rfl,hx⟩
  ·split at h
   ·rename_i z hz;cases h;exact .inr ⟨z,rfl,hz⟩
   ·cases h
 |_=>
  simp only at h;split at h
  ·rename_i z hz;cases h;exact .inr ⟨z,rfl,hz⟩
  ·cases h
theorem Zbx{f:Y7}{n:Nat}{τ:Qk}{l:Xq}{e:Exit}{s:St}{r:τ.El ⊕ Zv l}(h:U3 f n τ l e s=some r):(∃x,r=.inl x∧e=.normal∧Vc τ f n s=some x)∨∃z,r=.inr z∧K9 f n l e s=some z:=by
 unfold U3 at h;cases e with
 |normal=>
  simp only at h;split at h
  ·rename_i x hx;cases h;exact .inl ⟨x,rfl,rfl,hx⟩
  ·cases h
 |_=>
  simp only at h;split at h
  ·rename_i z hz;cases h;exact .inr ⟨z,rfl,hz⟩
  ·cases h
theorem Zee{R:Option Nat}{P:Program}{nt:Nat}{c:Code}{Q:Exit->St->Prop}{s:St}{f:Y7}{τ:Qk}{l:Xq}{F:Nat}{x0:τ.El}{y:Zv l}{step:τ.El->Option (τ.El ⊕ Zv l)}{rk:Exit->St->Option (τ.El ⊕ Zv l)}
  (hrk:∀e s' r,rk e s'=some r->(∃x,r=.inl x∧e=.normal∧Vc τ f s.H.length s'=some x)∨∃z,r=.inr z∧K9 f s.H.length l e s'=some z)
  (hm:s.marks=[]) (hf:f.ok=true) (hl:K6 f l=true) (hτ:τ.W7 (f.of τ)=true)
  (hstep:∀x r,step x=some r->Zj R P nt c (fun e s'=>rk e s'=some r) (τ.st f.D (f.of τ) f.mv s x))
  (h0:Vc τ f s.H.length s.sub=some x0) (hrun:Qx step F x0=some y)
  (hn:(Jb f s l y).1=.normal->Qik R P nt c Q (s.outer (Jb f s l y).2)) (hq:(Jb f s l y).1≠.normal->Q (Jb f s l y).1 (s.outer (Jb f s l y).2)):Qik R P nt c Q s:=by
 intro B M U a w hg;have gs:=Qrs hg hm;have hbase:=fun ids=>Qpr hg f.D ids f.mv;let J:Nat->Act->World->Prop:=fun n a' w'=>∃M' U' x,Qx step n x=some y∧Good (Qb2 a) nt M' U' (τ.st f.D (f.of τ) f.mv s x) a' w'∧Fr M U s.H w M' U' (τ.st f.D (f.of τ) f.mv s x).H w' s.H.length (f.of τ) f.mv;refine Zyo (fun a w=>∃n,J n a w) (fun a w=>leastOf (fun n=>J n a w)) ?_ ?_
 ·obtain⟨r1,c',hc,r2⟩:=Qai h0;obtain⟨M'',U'',g1,g2,_⟩:=K4 (b:=s) (H0:=s.H) (M0:=M) (ρ0:=U) (a0:=a) (w0:=w) (fun _ _=>rfl) (hbase _) hg.mem gs (Fr.refl ..) (Qa5 hf) hτ r1 r2 hc;exact⟨F,M'',U'',x0,hrun,g1,g2⟩
 ·intro a1 w1 hI;obtain⟨hJ,hmin⟩:=leastOf_spec hI;obtain⟨M1,ρ1,x,hx,g1,f1⟩:=hJ;generalize hn':leastOf (fun n=>J n a1 w1)=n at hx hmin;cases n with
  |zero=>cases hx
  |succ n=>
   simp only[Qx]at hx;cases hs:step x with
   |none=>simp only[hs]at hx;cases hx
   |some r=>
    refine wpIn_mono (hstep x r hs (Qb2 a) M1 ρ1 a1 w1 g1) ?_
    rintro e a2 w2 ⟨M2,ρ2,s2,hk,g2,go2⟩
    obtain⟨e1,e2,e3,e4,e5⟩:=Qk.Qek τ f.D (f.of τ) f.mv s x;have f2:Fr M U s.H w M2 ρ2 s2.H w2 s.H.length s2.tch s2.fg:=by have hfr:=go2.fr;rw[e1]at hfr;exact f1.trans hfr (fun z hz=>go2.tch z (by rw[e2];exact hz)) (fun z hz=>hz) (fun z hz=>go2.fg z (by rw[e3];exact hz)) (fun z hz=>hz)
    rcases hrk e s2 r hk with⟨z,rfl,rfl,hz⟩|⟨z,rfl,hz⟩
    ·simp only[hs]at hx;obtain⟨r1,c',hc,r2⟩:=Qai hz;obtain⟨M'',U'',k1,k2,_⟩:=K4 (b:=s) (H0:=s.H) (M0:=M) (ρ0:=U) (a0:=a) (w0:=w) (fun _ _=>rfl) (hbase _) hg.mem g2 f2 (Qa5 hf) hτ r1 r2 hc;have hx':J n a2 w2:=⟨M'',U'',z,hx,k1,k2⟩;refine .inl ?_;show(∃n,J n a2 w2)∧leastOf (fun n=>J n a2 w2)<n+1;exact⟨⟨n,hx'⟩,ZR ((leastOf_spec ⟨n,hx'⟩).2 n hx')⟩
    ·simp only[hs,ZJ]at hx;subst hx;obtain⟨τ',z',h1,h2,h3⟩:=Qlg (b:=s) hl hz;obtain⟨r1,c',hc,r2⟩:=Qai h2;obtain⟨M'',U'',k1,k2,_⟩:=K4 (b:=s) (H0:=s.H) (M0:=M) (ρ0:=U) (a0:=a) (w0:=w) (fun _ _=>rfl) (hbase _) hg.mem g2 f2 (Qa5 hf) h1 r1 r2 hc;obtain⟨q1,q2,q3,q4,q5⟩:=Qk.Qek τ' f.D (f.of τ') f.mv s z';obtain⟨m1,m2⟩:=Qsl hg hm k1 k2 q1 q2 q3 q4;rw[h3]at hq hn;cases e with
     |normal=>exact .inr ((hn rfl B M'' U'' a2 w2 m1).mono fun e a3 w3 ⟨M3,ρ3,s3,q,g,go⟩=>⟨M3,ρ3,s3,q,g,m2.trans go⟩)
     |exit id=>exact⟨M'',U'',_,hq (fun h=>nomatch h),m1,m2⟩
     |goto lb=>exact⟨M'',U'',_,hq (fun h=>nomatch h),m1,m2⟩
     |ret=>exact⟨M'',U'',_,hq (fun h=>nomatch h),m1,m2⟩
     |panic ch=>exact⟨M'',U'',_,hq (fun h=>nomatch h),m1,m2⟩
     |outgrown=>exact⟨M'',U'',_,hq (fun h=>nomatch h),m1,m2⟩
end Go.Sx
