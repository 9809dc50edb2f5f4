/- Part P of the own logic: the evaluator of whole functions. Part Qa of the own logic: reading data, states by templates of data. And further parts. -/
import Derived.Test.YtpkbmngnolhopaaGreatDoorXSxL
set_option linter.unusedVariables false
set_option linter.unusedSimpArgs false
set_option linter.unnecessarySimpa false
open Nat renaming eq_of_beq_eq_true->C,beq->ZB,blt->ZM,lt_succ_of_le->ZR
open Bool renaming and_eq_true->ZA
open Option renaming map_eq_some_iff->ZC,map_some->ZO,bind_some->ZT
open List renaming mem_cons_of_mem->ZD,map_congr_left->ZE,all_eq_true->ZF,getElem?_eq_some_iff->ZG,mem_cons_self->ZH,mem_cons->ZI,getElem?_set->ZK,mem_filterMap->ZL,getElem?_eq_getElem->ZN,replicate->ZP,map_map->ZQ,length_cons->ZS,map_id->ZU,map_cons->ZV
open Option.some renaming injEq->ZJ
section
namespace Go.Sx
open Go
mutual
def SV.free(m:Nat):SV->Bool
 |.agg l=>Vk m l
 |.tup l=>Vk m l
 |.fn _ a b=>Vk m a&&Vk m b
 |.ptr s _ _ _=>ZM s m
 |.sl s _ _ _=>ZM s m
 |.mp s=>ZM s m
 |.yld s=>ZM s m
 |.slb s _ _ _ _=>ZM s m
 |.any=>true
 |.pv _=>true
def Vk(m:Nat):List SV->Bool
 |[]=>true
 |x::xs=>x.free m&&Vk m xs
end
theorem Qa1{a b:Nat}(h:ZM a b=true):a<b:=by rw[Nat.blt_eq]at h;exact h
theorem Ql5{m n s:Nat}(h:s<m):(U0 m n).contains s=false:=by simp[U0];omega
mutual
theorem SV.Qcu{m n:Nat}:∀(x:SV),x.free m=true->x.forget (U0 m n)=x
 |.agg l,h=>by simp only[SV.free]at h;simp only[SV.forget,Qif l h]
 |.tup l,h=>by simp only[SV.free]at h;simp only[SV.forget,Qif l h]
 |.fn _ a b,h=>by simp only[SV.free,ZA]at h;simp only[SV.forget,Qif a h.1,Qif b h.2]
 |.ptr s _ _ _,h=>by simp only[SV.forget,Ql5 (Qa1 h)];exact if_neg (by simp)
 |.sl s _ _ _,h=>by simp only[SV.forget,Ql5 (Qa1 h)];exact if_neg (by simp)
 |.mp s,h=>by simp only[SV.forget,Ql5 (Qa1 h)];exact if_neg (by simp)
 |.yld s,h=>by simp only[SV.forget,Ql5 (Qa1 h)];exact if_neg (by simp)
 |.slb s _ _ _ _,h=>by simp only[SV.forget,Ql5 (Qa1 h)];exact if_neg (by simp)
 |.any,h=>rfl
 |.pv _,h=>rfl
theorem Qif{m n:Nat}:∀(l:List SV),Vk m l=true->Wi (U0 m n) l=l
 |[],h=>rfl
 |x::xs,h=>by simp only[Vk,ZA]at h;simp only[Wi,SV.Qcu x h.1,Qif xs h.2]
end
def Qb.free(m:Nat):Qb->Bool
 |.mix _ _ rows=>rows.all (Vk m)
 |.tlnk _ _ _ _ _ x=>x.free m
 |.nest _ _ _ _ q=>match q with
  |some x=>x.2.free m
  |none=>true
 |.map es _=>es.all fun e=>e.2.1.free m
 |.loop _=>false
 |.mit _ _ _=>false
 |_=>true
theorem Qb.Qcu{m n:Nat}(o:Qb)(h:o.free m=true):o.forget (U0 m n)=o:=by
 cases o with
 |mix ty sz rows=>
  simp only[Qb.free,ZF]at h;simp only[Qb.forget,Qb.mix.injEq,true_and];induction rows with
  |nil=>rfl
  |cons r rs ih=>simp only[ZV,List.cons.injEq];refine⟨?_,ih fun x hx=>h x (ZD _ hx)⟩;rw[<-Qss];exact Qif r (h r ZH)
 |tlnk ty row l r c x=>simp only[Qb.free]at h;simp only[Qb.forget,SV.Qcu x h]
 |nest ty ity row ll q=>
  cases q with
  |none=>rfl
  |some x=>simp only[Qb.free]at h;simp only[Qb.forget,ZO,SV.Qcu _ h]
 |map es c=>
  simp only[Qb.free,ZF]at h;simp only[Qb.forget,Qb.map.injEq,and_true];induction es with
  |nil=>rfl
  |cons e es ih=>simp only[ZV,List.cons.injEq];refine⟨?_,ih fun x hx=>h x (ZD _ hx)⟩;rw[SV.Qcu _ (h e ZH)]
 |loop l=>cases h
 |mit _ _ _=>cases h
 |_=>rfl
def restore(t:List Nat):Nat->List Qb->List Qb->List Qb
 |_,[],_=>[]
 |i,o::H,H'=>(bif t.contains i then H'.headD .dead else o)::restore t (i+1) H H'.tail
theorem Zcy(t:List Nat):∀(H:List Qb) (i:Nat) (H':List Qb) (s:Nat),H.length<=H'.length->(restore t i H H')[s]? =if s<H.length then(if t.contains (i+s)then H'[s]? else H[s]?)else none
 |[],i,H',s,_=>by simp[restore]
 |o::H,i,[],s,h=>by simp at h
 |o::H,i,o'::H',s,h=>by
  cases s with
  |zero=>simp only[restore,List.getElem?_cons_zero,ZS,Nat.zero_lt_succ,if_true,Nat.add_zero,List.headD_cons];cases t.contains i<;>rfl
  |succ s=>simp only[restore,List.getElem?_cons_succ,List.tail_cons,ZS,Nat.succ_lt_succ_iff];rw[Zcy t H (i+1) H' s (by simpa using h)];rw[show i+1+s=i+(s+1)by omega]
theorem Zk1(t:List Nat):∀(H:List Qb) (i:Nat) (H':List Qb),(restore t i H H').length=H.length
 |[],i,H'=>rfl
 |o::H,i,H'=>by simp[restore,Zk1 t H]
def Qa7(t:List Nat)(H H':List Qb):List Qb:=match t with
 |[]=>H
 |_=>restore t 0 H H'
theorem Zdp(t:List Nat)(H H':List Qb)(s:Nat)(h:H.length<=H'.length):(Qa7 t H H')[s]? =if s<H.length then(if t.contains s then H'[s]? else H[s]?)else none:=by
 unfold Qa7;split
 ·split
  ·simp
  ·rename_i h;simp[Nat.le_of_not_lt h]
 ·rw[Zcy _ _ _ _ _ h];simp
theorem Yg4(t:List Nat)(H H':List Qb):(Qa7 t H H').length=H.length:=by
 unfold Qa7;split
 ·rfl
 ·exact Zk1 _ _ _ _
theorem Ygm{M M':Qd}{Z Z':Env}{H H':List Qb}{w w':World}{t:List Nat}(hm:Mem M Z H w)(hm':Mem M' Z' H' w')(hf:Fr M Z H w M' Z' H' w' H.length t [])
  (hlen:H.length<=H'.length) (hobj:∀s∈t,∀o,H'[s]? =some o->s<H.length->o.free H.length=true):
  Mem (M'.sealing Z' H' H.length w') (Z'.cut H.length) (Qa7 t H H') w'∧Fr M Z H w (M'.sealing Z' H' H.length w') (Z'.cut H.length) (Qa7 t H H') w' H.length t []:=by
 have hb:=Qiv hm' H.length;have hsl:=Qd.W0 M' Z' H' H.length w';have hc:∀s,s<H.length->Z'.cut H.length s=Z' s:=fun s hs=>by simp[Env.cut,hs]
 have hst:∀s,s<H.length->Z' s=Z s:=fun s hs=>hf.stay s hs (by simp);have hle:Z.le (Z'.cut H.length):=fun s p hp=>by
  rcases Nat.lt_or_ge s H.length with h'|h'
  ·rw[hc s h',hst s h'];exact hp
  ·rw[hm.fresh s h']at hp;cases hp
 have hget:∀(s:Nat) (o:Qb),(Qa7 t H H')[s]? =some o->s<H.length∧((s∈t∧H'[s]? =some o)∨(s∉t∧H[s]? =some o)):=fun s o ho=>by
  rw[Zdp _ _ _ _ hlen]at ho;split at ho
  ·rename_i h1;split at ho
   ·rename_i h2;exact⟨h1,.inl ⟨by simpa using h2,ho⟩⟩
   ·rename_i h2;exact⟨h1,.inr ⟨by simpa using h2,ho⟩⟩
  ·cases ho
 have hlive:∀(s:Nat) (o:Qb),(Qa7 t H H')[s]? =some o->o.live=true->∃o',H'[s]? =some o'∧o'.live=true:=fun s o ho hl=>by
  obtain⟨h1,⟨_,h2⟩|⟨h3,h2⟩⟩:=hget s o ho
  ·exact⟨o,h2,hl⟩
  ·exact(hf.keep s o h1 h3 h2 hl).1
 have rl:∀o:Qb,o.Kw=true->o.live=true:=fun o ho=>by cases o<;>simp_all [Qb.Kw,Qb.live]
 refine⟨?_,?_⟩
 ·refine⟨fun b o hb'=>?_,fun s o ho=>?_,fun s o p b ho hl hp hb=>?_,fun s s' o o' p p' b ho ho' hl hl' hp hp' hbk hbk'=>?_,fun s hs=>?_,fun s o p b ho hl hp hb=>?_⟩
  ·cases e:M' b with
   |some o'=>rw[hsl b o' e]at hb';cases hb';exact hm'.imm b _ e
   |none=>exact(Qd.Kx e hb').2
  ·obtain⟨h1,⟨h3,h2⟩|⟨h3,h2⟩⟩:=hget s o ho
   ·have:=(hm'.own s o h2).forget hsl hb (hc s h1) (fun _ _ _ _=>rfl);rwa[Qb.Qcu o (hobj s h3 o h2 h1)]at this
   ·by_cases hl:o.live=true
    ·refine(hm.own s o h2).mono (Qd.le_trans hf.imm hsl) hle ((hc s h1).trans (hst s h1)) fun p b hp hb=>?_;exact((hf.keep s o h1 h3 h2 hl).2 p hp).2 b hb
    ·cases o<;>first|trivial|exact absurd rfl hl
  ·obtain⟨h1,_⟩:=hget s o ho;obtain⟨o',h2,h3⟩:=hlive s o ho hl;rw[hc s h1]at hp;have h0:=hm'.seps s o' p b h2 h3 hp hb;cases e:M'.sealing Z' H' H.length w' b with
   |none=>rfl
   |some q=>obtain⟨⟨s2,o2,p2,k1,k2,k3,k4,k5⟩,_⟩:=Qd.Kx h0 e;have:=hm'.diss s s2 o' o2 p p2 b h2 k2 h3 (rl o2 k3) hp k4 hb (.inl k5);omega
  ·obtain⟨h1,_⟩:=hget s o ho;obtain⟨k1,_⟩:=hget s' o' ho';obtain⟨o2,h2,h3⟩:=hlive s o ho hl;obtain⟨o3,k2,k3⟩:=hlive s' o' ho' hl';rw[hc s h1]at hp;rw[hc s' k1]at hp';exact hm'.diss s s' o2 o3 p p' b h2 k2 h3 k3 hp hp' hbk hbk'
  ·rw[Yg4]at hs;simp[Env.cut,Nat.not_lt.2 hs]
  ·obtain⟨h1,_⟩:=hget s o ho;obtain⟨o',h2,h3⟩:=hlive s o ho hl;rw[hc s h1]at hp;exact hm'.lts s o' p b h2 h3 hp hb
 ·refine⟨Qd.le_trans hf.imm hsl,fun b o h0 h1=>?_,fun b hb'=>?_,hf.same,hf.grow,fun s o hs hx ho hl=>?_,fun s hs hx=>?_,hf.io⟩
  ·cases e:M' b with
   |some o'=>exact hf.new b o' h0 e
   |none=>obtain⟨⟨s2,o2,p2,k1,k2,k3,k4,k5⟩,_⟩:=Qd.Kx e h1;exact hf.own b ⟨s2,o2,p2,k2,rl o2 k3,k4,.inl k5⟩
  ·obtain⟨s,o,p,h1,h2,h3,h4⟩:=hb';obtain⟨k1,_⟩:=hget s o h1;obtain⟨o',k2,k3⟩:=hlive s o h1 h2;rw[hc s k1]at h3;exact hf.own b ⟨s,o',p,k2,k3,h3,h4⟩
  ·refine⟨⟨o,?_,hl⟩,fun p hp=>?_⟩
   ·rw[Zdp _ _ _ _ hlen,if_pos hs,if_neg (by simpa using hx)];exact ho
   ·obtain⟨_,h3⟩:=hf.keep s o hs hx ho hl;obtain⟨k1,k2⟩:=h3 p hp;exact⟨by rw[hc s hs];exact k1,k2⟩
  ·rw[hc s hs];exact hst s hs
def Qmi(H:List Qb)(n k:Nat)(x:SV):Option SV:=match x.free n with
 |true=>some x
 |false=>(frz H n k x).map .pv
def Qnc(H:List Qb)(n k:Nat):List SV->Option (List SV)
 |[]=>some []
 |x::l=>match Qmi H n k x,Qnc H n k l with
  |some y,some ys=>some (y::ys)
  |_,_=>none
def Qln(H:List Qb)(n k:Nat)(x:SV):Option SV:=match x.free n with
 |true=>some x
 |false=>match x with
  |.tup l=>(Qnc H n k l).map .tup
  |x=>(frz H n k x).map .pv
theorem Qxr{M:Qd}{Z:Env}{H:List Qb}{w:World}{n k:Nat}(hm:Mem M Z H w){x y:SV}{v:Value}(h:Qmi H n k x=some y)(hr:Qf M Z v x):Qf (M.sealing Z H n w) (Z.cut n) v y:=by
 unfold Qmi at h;split at h
 ·rename_i e;cases h;have:=hr.forget (Qd.W0 M Z H n w) (Qiv hm n);rwa[SV.Qcu x e]at this
 ·simp only[ZC]at h;obtain⟨p,hp,rfl⟩:=h;exact .pv (Yad hm k x p v hp hr)
theorem Zhc{M:Qd}{Z:Env}{H:List Qb}{w:World}{n k:Nat}(hm:Mem M Z H w):∀{l l':List SV},Qnc H n k l=some l'->l'.length=l.length∧
  ∀(i:Nat) (v:Value) (y:SV),l'[i]? =some y->(∀x,l[i]? =some x->Qf M Z v x)->Qf (M.sealing Z H n w) (Z.cut n) v y
 |[],l',h=>by simp[Qnc]at h;subst h;simp
 |x::l,l',h=>by
  simp only[Qnc]at h;split at h
  ·rename_i y ys h1 h2;cases h;obtain⟨g1,g2⟩:=Zhc hm h2;refine⟨by simp[g1],fun i v z hz hx=>?_⟩;cases i with
   |zero=>simp at hz;subst hz;exact Qxr hm h1 (hx x rfl)
   |succ i=>simp at hz;exact g2 i v z hz fun x' hx'=>hx x' (by simpa using hx')
  ·cases h
theorem Yip{M:Qd}{Z:Env}{H:List Qb}{w:World}{n k:Nat}(hm:Mem M Z H w){x y:SV}{v:Value}(h:Qln H n k x=some y)(hr:Qf M Z v x):Qf (M.sealing Z H n w) (Z.cut n) v y:=by
 by_cases e:x.free n=true
 ·exact Qxr (k:=k) hm (by simp only[Qln,e]at h;simp only[Qmi,e];exact h) hr
 ·have e:x.free n=false:=by simpa using e
  simp only[Qln,e]at h;split at h
  ·rename_i l;simp only[ZC]at h;obtain⟨l',hl',rfl⟩:=h;obtain⟨g1,g2⟩:=Zhc hm hl';cases hr with
   |tup cs _ hl hrep=>exact .tup cs l' (by rw[g1];exact hl) fun i v y hv hy=>g2 i v y hy fun x hx=>hrep i v x hv hx
  ·exact Qxr (k:=k) hm (by simp only[Qmi,e];exact h) hr
def Left(H:List Qb)(K:Qy)(r:SV)(H':List Qb)(t g:List Nat):Prop:=
 (g=[]∧H.length<=H'.length∧(∀s∈t,∀o,H'[s]? =some o->s<H.length->o.free H.length=true)∧∃r' k,Qln H' H.length k r=some r'∧K r' (Qa7 t H H') t [])∨K r H' t g
theorem Xt.leave{P:Program}{f:FuncId}{args:List SV}{H:List Qb}{K:Qy}(h:Xt P f args H fun r H' t g=>Left H K r H' t g):Xt P f args H K:=by
 intro M Z w vs hm hr;refine(h M Z w vs hm hr).mono ?_
 rintro e w' ⟨v,r,H',M',Z',t,g,he,hk,hs,hm',hf⟩
 refine hk.elim (fun hk=>?_) (fun hk=>⟨v,_,_,M',Z',t,g,he,hk,hs,hm',hf⟩);obtain⟨rfl,hlen,hobj,r',k,hfr,hk⟩:=hk;obtain⟨g1,g2⟩:=Ygm hm hm' hf hlen hobj;exact⟨v,r',_,_,_,t,[],he,hk,Yip hm' hfr hs,g1,g2⟩
structure Ext where
 sum:Nat->List SV->List Qb->Option (SV×List Qb×List Nat×List Nat)
 guess:Nat->List SV->List SV
 still:Nat->Bool
structure Ext.Ok (cx:Cx) (ext:Ext):Prop where
 ok:∀g args H r H' t f,ext.sum g args H=some (r,H',t,f)->(∃fn,cx.fns.lookup g=some fn)∧Xt cx.P g args H fun x h u v=>x=r∧h=H'∧u=t∧v=f
def Qor(n:Nat)(H':List Qb):List Nat->Bool
 |[]=>true
 |s::t=>(match H'[s]? with
  |some o=>o.free n
  |none=>true)&&Qor n H' t
def isReady:LoopState->Bool
 |.ready=>true
 |_=>false
def Zju:LoopState->Bool
 |.busy=>false
 |_=>true
theorem Qdf{cx:Cx}{s:St}:∀(rs:List ResultVar) (K K':List SV->Prop),(∀l,K l->K' l)->Qac cx s rs K->Qac cx s rs K'
 |[],K,K',hk,h=>hk _ h
 |.tmp t::rs,K,K',hk,h=>Qdf rs _ _ (fun l=>hk _) h
 |.cell a t::rs,K,K',hk,h=>Qp.Qbi (fun x _ _ _ h=>Qdf rs _ _ (fun l=>hk _) h) h
theorem Zjh{n:Nat}{H':List Qb}:∀{t:List Nat},Qor n H' t=true->∀s∈t,∀o,H'[s]? =some o->o.free n=true
 |[],_,s,hs,_,_=>by cases hs
 |x::t,h,s,hs,o,ho=>by
  simp only[Qor,ZA]at h;rcases ZI.1 hs with rfl|hs
  ·have:=h.1;simpa[ho]using this
  ·exact Zjh h.2 s hs o ho
theorem Yal{s:LoopState}(h:isReady s=true):s=.ready:=by cases s<;>first|rfl|cases h
theorem Yir{s:LoopState}(h:Zju s=true):s≠.busy:=by intro e;subst e;cases h
theorem Ql2{l:List Nat}{x:Nat}(h:(!l.contains x)=true):x∉l:=by simpa using h
end Go.Sx
end
section
namespace Go.Sx
open Go
mutual
def SV.same:SV->SV->Bool
 |.ptr a b c d,.ptr a' b' c' d'=>ZB a a'&&(ZB b b'&&(ZB c c'&&ZB d d'))
 |.sl a b c d,.sl a' b' c' d'=>ZB a a'&&(ZB b b'&&(ZB c c'&&ZB d d'))
 |.mp a,.mp b=>ZB a b
 |.yld a,.yld b=>ZB a b
 |.fn (.func f) a b,.fn (.func f') a' b'=>ZB f f'&&(Qjw a a'&&Qjw b b')
 |.pv (.lit (.func (.func f) a b)),.pv (.lit (.func (.func f') a' b'))=>ZB f f'&&(a.isEmpty&&(b.isEmpty&&(a'.isEmpty&&b'.isEmpty)))
 |.pv (.lit (.slice none a b)),.pv (.lit (.slice none a' b'))=>ZB a a'&&ZB b b'
 |.pv (.lit (.map none)),.pv (.lit (.map none))=>true
 |.any,.any=>true
 |.agg a,.agg b=>Qjw a b
 |_,_=>false
def Qjw:List SV->List SV->Bool
 |[],[]=>true
 |x::l,y::m=>x.same y&&Qjw l m
 |_,_=>false
end
mutual
theorem SV.Qz2:∀(x y:SV),x.same y=true->x=y:=fun x y h=>by
 unfold SV.same at h;split at h
 ·simp only[ZA]at h;rw[C h.1,C h.2.1,C h.2.2.1,C h.2.2.2]
 ·simp only[ZA]at h;rw[C h.1,C h.2.1,C h.2.2.1,C h.2.2.2]
 ·rw[C h]
 ·rw[C h]
 ·simp only[ZA]at h;rw[C h.1,Qr0 _ _ h.2.1,Qr0 _ _ h.2.2]
 ·simp only[ZA,Array.isEmpty_iff]at h;rw[C h.1,h.2.1,h.2.2.1,h.2.2.2.1,h.2.2.2.2]
 ·simp only[ZA]at h;rw[C h.1,C h.2]
 ·rfl
 ·rfl
 ·rw[Qr0 _ _ h]
 ·cases h
theorem Qr0:∀(x y:List SV),Qjw x y=true->x=y
 |[],[],_=>rfl
 |x::l,y::m,h=>by simp only[Qjw,ZA]at h;rw[SV.Qz2 x y h.1,Qr0 l m h.2]
 |[],_::_,h=>by cases h
 |_::_,[],h=>by cases h
end
def Qk9:Value->Value->Bool
 |.func (.func f) a b,.func (.func f') a' b'=>ZB f f'&&(a.isEmpty&&(b.isEmpty&&(a'.isEmpty&&b'.isEmpty)))
 |.string a,.string b=>decide (a.data=b.data)
 |.int k a,.int k' b=>decide (k=k')&&decide (a=b)
 |.bool a,.bool b=>decide (a=b)
 |_,_=>false
theorem Qzg{x y:Value}(h:Qk9 x y=true):x=y:=by
 unfold Qk9 at h;split at h
 ·simp only[ZA,Array.isEmpty_iff]at h;rw[C h.1,h.2.1,h.2.2.1,h.2.2.2.1,h.2.2.2.2]
 ·rename_i a b;have:=of_decide_eq_true h;cases a;cases b;simp only at this;rw[this]
 ·rw[ZA]at h;rw[of_decide_eq_true h.1,of_decide_eq_true h.2]
 ·rw[of_decide_eq_true h]
 ·cases h
def Qsz:List Value->List Value->Bool
 |[],[]=>true
 |x::l,y::m=>Qk9 x y&&Qsz l m
 |_,_=>false
theorem Zh9:∀{x y:List Value},Qsz x y=true->x=y
 |[],[],_=>rfl
 |x::l,y::m,h=>by simp only[Qsz,ZA]at h;rw[Qzg h.1,Zh9 h.2]
 |[],_::_,h=>by cases h
 |_::_,[],h=>by cases h
def Qxn:SV->SV->Bool
 |.pv (.lit (.agg a)),.pv (.lit (.agg b))=>Qsz a.toList b.toList
 |.pv (.lit x),.pv (.lit y)=>Qk9 x y
 |x,y=>x.same y
theorem Zqg{x y:SV}(h:Qxn x y=true):x=y:=by
 unfold Qxn at h;split at h
 ·rw[Array.toList_inj.1 (Zh9 h)]
 ·rw[Qzg h]
 ·exact SV.Qz2 _ _ h
def Qse:List (Value×SV×Nat)->List (Value×SV×Nat)->Bool
 |[],[]=>true
 |x::l,y::m=>Qk9 x.1 y.1&&(Qxn x.2.1 y.2.1&&(ZB x.2.2 y.2.2&&Qse l m))
 |_,_=>false
theorem Zix:∀{x y:List (Value×SV×Nat)},Qse x y=true->x=y
 |[],[],_=>rfl
 |(a,b,c)::l,(a',b',c')::m,h=>by simp only[Qse,ZA]at h;rw[Qzg h.1,Zqg h.2.1,C h.2.2.1,Zix h.2.2.2]
 |[],_::_,h=>by cases h
 |_::_,[],h=>by cases h
def Qm3:Qb->Qb->Bool
 |.map es c,.map es' c'=>ZB c c'&&Qse es es'
 |_,_=>false
theorem Zce{x y:Qb}(h:Qm3 x y=true):x=y:=by
 unfold Qm3 at h;split at h
 ·rw[ZA]at h;rw[C h.1,Zix h.2]
 ·cases h
inductive Lk where
 |stat (x:SV)
 |own (s:Nat)
def Qep(H:List Qb):Lk->SV
 |.stat x=>x
 |.own s=>match H[s]? with
  |some o=>match o.szl with
   |some sz=>.sl s sz 0 o.len
   |none=>.any
  |none=>.any
def Qe4(H:List Qb)(n:Nat)(x:SV):Lk->Option Bool
 |.stat y=>match x.same y&&y.free n with
  |true=>some true
  |false=>none
 |.own s=>match x with
  |.sl s' sz st m=>match ZB s' s&&(ZB st 0&&ZM s n)with
   |false=>none
   |true=>match H[s]? with
    |none=>none
    |some o=>match o.szl with
     |none=>none
     |some sz'=>match ZB sz' sz with
      |true=>some (decide (m=o.len))
      |false=>none
  |_=>none
abbrev PL:=List (Nat×Qe)
def Jd:PL->Type
 |[]=>Unit
 |[p]=>p.2.El
 |p::p'::l=>p.2.El×Jd (p'::l)
def Qal:(l:PL)->Jd l->List SV->List SV
 |[],_,r=>r
 |[p],x,r=>r.set p.1 (p.2.sv x)
 |p::p'::l,x,r=>Qal (p'::l) x.2 (r.set p.1 (p.2.sv x.1))
def Qcx(H:List Qb):List (Nat×Lk)->List SV->List SV
 |[],r=>r
 |q::l,r=>Qcx H l (r.set q.1 (Qep H q.2))
def Qfa(H:List Qb)(n:Nat)(r:List SV):(l:PL)->Option (Bool×Jd l)
 |[]=>some (true,())
 |[p]=>match r[p.1]? with
  |some x=>rdA H n p.2 x
  |none=>none
 |p::p'::l=>match r[p.1]? with
  |none=>none
  |some x=>match rdA H n p.2 x with
   |none=>none
   |some a=>match Qfa H n r (p'::l)with
    |none=>none
    |some b=>some (a.1&&b.1,(a.2,b.2))
def Qiu(H:List Qb)(n:Nat)(r:List SV):List (Nat×Lk)->Option Bool
 |[]=>some true
 |q::l=>match r[q.1]? with
  |none=>none
  |some x=>match Qe4 H n x q.2 with
   |none=>none
   |some c=>match Qiu H n r l with
    |none=>none
    |some d=>some (c&&d)
def Qmo:Option Code->Option Code->Bool
 |none,none=>true
 |some .ret,some .ret=>true
 |some (.exit a),some (.exit b)=>ZB a b
 |_,_=>false
theorem Zwe{a b:Option Code}(h:Qmo a b=true):a=b:=by unfold Qmo at h;split at h<;>first|rfl|(rw[C h];done)|cases h
inductive Qu where
 |slot (t:Nat) (a:Qe)
 |vec (s ty:Nat) (row:List Ty)
 |one (s ty:Nat) (row:List Ty)
 |mix (s ty sz:Nat) (dat:PL) (lnk:List (Nat×Lk))
 |map (s:Nat) (k v:Qe)
 |iter (s:Nat)
 |over (s:Nat) (pd:Option Code)
 |nest (s ty ity:Nat) (row:List Ty)
 |fix (s:Nat) (es:List (Value×SV×Nat)) (c:Nat)
 |mit (s m:Nat)
def Qu.El:Qu->Type
 |.slot _ a=>a.El
 |.vec _ _ row=>List (Ql row)
 |.one _ _ row=>Ql row
 |.mix _ _ _ dat _=>Jd dat
 |.map _ k v=>List (k.El×v.El)
 |.iter _=>ByteArray×Nat
 |.over _ _=>Unit
 |.nest _ _ _ row=>List (List (Ql row))
 |.fix _ _ _=>Unit
 |.mit _ _=>Nat×List Nat
def Yo:List Qu->Type
 |[]=>Unit
 |[c]=>c.El
 |c::c'::l=>c.El×Yo (c'::l)
structure Qm where
 cells:List Qu
 owns:List (Nat×Lk)
abbrev Qm.El(O:Qm):Type:=Yo O.cells
def Qu.obj(H:List Qb):(c:Qu)->c.El->Qb
 |.slot _ _,_=>.dead
 |.vec _ ty row,x=>.tvec ty row x
 |.one _ ty row,x=>.vec ty row.length [Zn row x]
 |.mix _ ty sz dat lnk,x=>.mix ty sz [Qcx H lnk (Qal dat x (ZP sz .any))]
 |.map _ k v,x=>.tmap k v x
 |.iter _,x=>.iter x.1 x.2
 |.over _ pd,_=>.over .done pd
 |.nest _ ty ity row,x=>.nest ty ity row x none
 |.fix _ es c,_=>.map es c
 |.mit _ m,x=>.mit (some m) x.1 x.2
def Qu.id?:Qu->Option Nat
 |.slot ..=>none
 |.vec s ..=>some s
 |.one s ..=>some s
 |.mix s ..=>some s
 |.map s ..=>some s
 |.iter s=>some s
 |.over s _=>some s
 |.nest s _ _ _=>some s
 |.fix s _ _=>some s
 |.mit s _=>some s
def Qu.put(H0:List Qb)(c:Qu)(x:c.El)(p:TT×List Qb):TT×List Qb:=match c,x,p with
 |.slot t a,x,(T,H)=>(T.set t (a.sv x),H)
 |.vec s ty row,x,(T,H)=>(T,H.set s (.tvec ty row x))
 |.one s ty row,x,(T,H)=>(T,H.set s (.vec ty row.length [Zn row x]))
 |.mix s ty sz dat lnk,x,(T,H)=>(T,H.set s (.mix ty sz [Qcx H0 lnk (Qal dat x (ZP sz .any))]))
 |.map s k v,x,(T,H)=>(T,H.set s (.tmap k v x))
 |.iter s,x,(T,H)=>(T,H.set s (.iter x.1 x.2))
 |.over s pd,x,(T,H)=>(T,H.set s (.over .done pd))
 |.nest s ty ity row,x,(T,H)=>(T,H.set s (.nest ty ity row x none))
 |.fix s es c,x,(T,H)=>(T,H.set s (.map es c))
 |.mit s m,x,(T,H)=>(T,H.set s (.mit (some m) x.1 x.2))
def K2(H0:List Qb):(l:List Qu)->Yo l->TT×List Qb->TT×List Qb
 |[],_,p=>p
 |[c],x,p=>c.put H0 x p
 |c::c'::l,x,p=>K2 H0 (c'::l) x.2 (c.put H0 x.1 p)
def Qlj(H:List Qb):List (Nat×Lk)->TT->TT
 |[],T=>T
 |q::l,T=>Qlj H l (T.set q.1 (Qep H q.2))
def W7(mv:List Nat)(H:List Qb):List Qb:=match mv with
 |[]=>H
 |_=>H.map (Qb.forget mv)
def Qan:List Nat->List Qb->List Qb
 |[],H=>H
 |i::l,H=>Qan l (H.set i .dead)
def TT.drop:TT->List Nat->TT
 |T,[]=>T
 |T,d::D=>(T.set d .any).drop D
def Qm.st(O:Qm)(D ids mv:List Nat)(b:St)(x:O.El):St:=
 match K2 [] O.cells x (.nil,Qan ids (W7 mv b.H))with
 |(_,H1)=>match K2 H1 O.cells x ((Qbg mv b.T).drop D,Qan ids (W7 mv b.H))with
  |(T,H)=>{T:=Qlj H1 O.owns T,H:=H,n0:=b.H.length,tch:=ids,fg:=mv,marks:=[],er:=D}
def Qaw:Qb->Option (Nat×Nat×List SV)
 |.vec ty sz [r]=>some (ty,sz,r.map .pv)
 |.mix ty sz [r]=>some (ty,sz,r)
 |.tvec ty row [x]=>some (ty,row.length,(Zn row x).map .pv)
 |_=>none
def Qfw(k v:Qe)(H:List Qb)(n:Nat):Nat->List Zo->Option (Bool×List (k.El×v.El))
 |_,[]=>some (true,[])
 |i,e::es=>match ZB e.2.2 i with
  |false=>none
  |true=>match k.Qcv (.lit e.1)with
   |none=>none
   |some a=>match rdA H n v e.2.1 with
    |none=>none
    |some b=>match Qfw k v H n (i+1) es with
     |none=>none
     |some c=>some (b.1&&c.1,(a,b.2)::c.2)
def Qe.beq:Qe->Qe->Bool
 |.val t,.val t'=>t.beq t'
 |.agg r,.agg r'=>Ty.Qcs r r'
 |_,_=>false
theorem Qe.beq_eq:∀(a b:Qe),a.beq b=true->a=b
 |.val t,.val t',h=>by rw[Ty.beq_eq t t' h]
 |.agg r,.agg r',h=>by rw[Ty.Qnk r r' h]
 |.val _,.agg _,h=>by cases h
 |.agg _,.val _,h=>by cases h
def Qys(k v k' v':Qe)(l:List (k.El×v.El)):(b:Bool)->(b=true->k=k'∧v=v')->Option (List (k'.El×v'.El))
 |true,h=>some ((h rfl).1▸(h rfl).2▸l)
 |false,_=>none
def Qk6(k v k' v':Qe)(l:List (k.El×v.El)):Option (List (k'.El×v'.El)):=Qys k v k' v' l (k.beq k'&&v.beq v') fun h=>by rw[ZA]at h;exact⟨Qe.beq_eq _ _ h.1,Qe.beq_eq _ _ h.2⟩
theorem Zvi{k v k' v':Qe}{l:List (k.El×v.El)}{l':List (k'.El×v'.El)}(h:Qk6 k v k' v' l=some l'):∃(e:k=k') (e':v=v'),l'=e▸e'▸l:=by
 have:∀(b:Bool) (f:b=true->k=k'∧v=v'),Qys k v k' v' l b f=some l'->∃(e:k=k') (e':v=v'),l'=e▸e'▸l:=by
  intro b f h;cases b with
  |true=>simp only[Qys,ZJ]at h;exact⟨(f rfl).1,(f rfl).2,h.symm⟩
  |false=>cases h
 exact this _ _ h
def Qu.get(T:TT)(H:List Qb)(n:Nat):(c:Qu)->Option (Bool×c.El)
 |.slot t a=>match T.get t with
  |some x=>rdA H n a x
  |none=>none
 |.vec s ty row=>match H[s]? with
  |some (.tvec ty' row' l)=>match ZB ty' ty with
   |true=>match Ug row' row l with
    |some l=>some (true,l)
    |none=>none
   |false=>none
  |some (.vec ty' sz rows)=>match ZB ty' ty&&ZB sz row.length with
   |true=>match Wo (ofRow row) rows with
    |some l=>some (true,l)
    |none=>none
   |false=>none
  |some (.mix ty' sz rows)=>match ZB ty' ty&&ZB sz row.length with
   |true=>Qay (Vh H n row) rows
   |false=>none
  |_=>none
 |.one s ty row=>match H[s]? with
  |some o=>match Qaw o with
   |some (ty',sz,r)=>match ZB ty' ty&&ZB sz row.length with
    |true=>Vh H n row r
    |false=>none
   |none=>none
  |none=>none
 |.mix s ty sz dat lnk=>match H[s]? with
  |some o=>match Qaw o with
   |some (ty',sz',r)=>match ZB ty' ty&&ZB sz' sz with
    |true=>match Qiu H n r lnk with
     |some c=>match Qfa H n r dat with
      |some x=>some (c&&x.1,x.2)
      |none=>none
     |none=>none
    |false=>none
   |none=>none
  |none=>none
 |.map s k v=>match H[s]? with
  |some (.tmap k' v' l)=>match Qk6 k' v' k v l with
   |some l=>some (true,l)
   |none=>none
  |some (.map es c)=>match ZB c es.length&&(k.scalar)with
   |true=>Qfw k v H n 0 es
   |false=>none
  |_=>none
 |.iter s=>match H[s]? with
  |some (.iter b pos)=>some (true,(b,pos))
  |_=>none
 |.over s pd=>match H[s]? with
  |some (.over .done pd')=>match Qmo pd' pd with
   |true=>some (true,())
   |false=>none
  |_=>none
 |.nest s ty ity row=>match H[s]? with
  |some (.nest ty' ity' row' ll none)=>match ZB ty' ty&&ZB ity' ity with
   |true=>match Qop row' row ll with
    |some l=>some (true,l)
    |none=>none
   |false=>none
  |_=>none
 |.fix s es c=>match H[s]? with
  |some o'=>match Qm3 o' (.map es c)&&(Qb.map es c).free n with
   |true=>some (true,())
   |false=>none
  |none=>none
 |.mit s m=>match H[s]? with
  |some (.mit (some m') c sn)=>match ZB m' m&&ZM m n with
   |true=>some (true,(c,sn))
   |false=>none
  |_=>none
def Qsl(T:TT)(H:List Qb)(n:Nat):(l:List Qu)->Option (Bool×Yo l)
 |[]=>some (true,())
 |[c]=>c.get T H n
 |c::c'::l=>match c.get T H n with
  |none=>none
  |some x=>match Qsl T H n (c'::l)with
   |none=>none
   |some y=>some (x.1&&y.1,(x.2,y.2))
def Qsa(T:TT)(H:List Qb)(n:Nat):List (Nat×Lk)->Option Bool
 |[]=>some true
 |q::l=>match T.get q.1 with
  |none=>none
  |some x=>match Qe4 H n x q.2 with
   |none=>none
   |some c=>match Qsa T H n l with
    |none=>none
    |some d=>some (c&&d)
def subset(l m:List Nat):Bool:=l.all fun x=>m.contains x
def Qm.read(O:Qm)(n:Nat)(s:St):Option (Bool×O.El):=match Qsa s.T s.H n O.owns with
 |some c=>match Qsl s.T s.H n O.cells with
  |some x=>some (c&&x.1,x.2)
  |none=>none
 |none=>none
def Lk.inn(ids:List Nat):Lk->Bool
 |.stat _=>true
 |.own s=>ids.contains s
def Qu.Zmj:Qu->List (Nat×Lk)
 |.mix _ _ _ _ l=>l
 |_=>[]
def Qm.V8(O:Qm)(ids:List Nat):Bool:=(O.owns.all fun q=>q.2.inn (O.cells.filterMap Qu.id?))&&((O.cells.all fun c=>c.Zmj.all fun q=>q.2.inn (O.cells.filterMap Qu.id?))&&subset (O.cells.filterMap Qu.id?) ids)
def Qu.Qz3:Qu->List Nat
 |.over s _=>[s]
 |_=>[]
def Qm.Qz3(O:Qm):List Nat:=O.cells.flatMap Qu.Qz3
def St.reads(s:St)(D ids mv:List Nat)(n:Nat):Bool:=subset s.er D&&(subset s.tch ids&&(subset s.fg mv&&(s.marks.isEmpty&&Nat.ble n s.H.length)))
end Go.Sx
end
section
namespace Go.Sx
open Go
mutual
theorem SV.Qct(d:List Nat):∀(x:SV),(x.forget d).forget d=x.forget d
 |.agg l=>by simp only[SV.forget,Qmc d l]
 |.tup l=>by simp only[SV.forget,Qmc d l]
 |.fn _ a b=>by simp only[SV.forget,Qmc d a,Qmc d b]
 |.ptr s _ _ _=>by
  simp only[SV.forget];split
  ·rfl
  ·rename_i h;simp only[SV.forget,if_neg h]
 |.sl s _ _ _=>by
  simp only[SV.forget];split
  ·rfl
  ·rename_i h;simp only[SV.forget,if_neg h]
 |.mp s=>by
  simp only[SV.forget];split
  ·rfl
  ·rename_i h;simp only[SV.forget,if_neg h]
 |.yld s=>by
  simp only[SV.forget];split
  ·rfl
  ·rename_i h;simp only[SV.forget,if_neg h]
 |.slb s _ _ _ _=>by
  simp only[SV.forget];split
  ·rfl
  ·rename_i h;simp only[SV.forget,if_neg h]
 |.any=>rfl
 |.pv _=>rfl
theorem Qmc(d:List Nat):∀(l:List SV),Wi d (Wi d l)=Wi d l
 |[]=>rfl
 |x::xs=>by simp only[Wi,SV.Qct d x,Qmc d xs]
end
mutual
theorem SV.Uo:∀(x:SV),x.forget []=x
 |.agg l=>by simp only[SV.forget,Qk7 l]
 |.tup l=>by simp only[SV.forget,Qk7 l]
 |.fn _ a b=>by simp only[SV.forget,Qk7 a,Qk7 b]
 |.ptr s _ _ _=>by simp[SV.forget]
 |.sl s _ _ _=>by simp[SV.forget]
 |.mp s=>by simp[SV.forget]
 |.yld s=>by simp[SV.forget]
 |.slb s _ _ _ _=>by simp[SV.forget]
 |.any=>rfl
 |.pv _=>rfl
theorem Qk7:∀(l:List SV),Wi [] l=l
 |[]=>rfl
 |x::xs=>by simp only[Wi,SV.Uo x,Qk7 xs]
end
theorem TT.map_id{f:SV->SV}(hf:∀x,f x=x):∀(T:TT),T.map f=T
 |.nil=>rfl
 |.node l v r=>by simp only[TT.map,TT.map_id hf l,TT.map_id hf r];cases v<;>simp[hf]
theorem Qqv{row:List Ty}{l:List (Ql row)}{r c:Nat}{x:SV}{f:SV->SV}(hf:∀p,f (.pv p)=.pv p){i j:Nat}{y:SV}(h:Wd row l r c (f x) i j=some y):
  ∃y0,Wd row l r c x i j=some y0∧y=f y0∧(y0=x∨∃p,y0=.pv p):=by
 unfold Wd at h⊢;simp only[ZC]at h⊢;obtain⟨z,hz,rfl⟩:=h;by_cases hc:i=r∧j=c
 ·simp only[if_pos hc];exact⟨x,⟨z,hz,rfl⟩,rfl,.inl rfl⟩
 ·simp only[if_neg hc];unfold Y0 at hz;simp only[ZC]at hz;obtain⟨p,hp,rfl⟩:=hz;exact⟨.pv p,⟨.pv p,by rw[Y0,hp];rfl,rfl⟩,(hf p).symm,.inr ⟨p,rfl⟩⟩
theorem Qb.Uo(o:Qb):o.forget []=o:=by
 cases o with
 |mix ty sz rows=>
  simp only[Qb.forget,Qb.mix.injEq,true_and]
  conv=>rhs;rw[<-ZU rows]
  refine ZE fun r _=>?_
  conv=>rhs;rw[<-ZU r]
  exact ZE fun x _=>SV.Uo x
 |map es c=>
  simp only[Qb.forget,Qb.map.injEq,and_true]
  conv=>rhs;rw[<-ZU es]
  refine ZE fun e _=>?_;simp only[SV.Uo,id]
 |loop l=>simp only[Qb.forget,TT.map_id SV.Uo]
 |tlnk ty row l r c x=>simp only[Qb.forget,SV.Uo]
 |nest ty ity row ll q=>cases q with
  |none=>rfl
  |some x=>simp only[Qb.forget,ZO,SV.Uo]
 |mit m c s=>cases m<;>rfl
 |_=>rfl
theorem TT.Qz5{f:SV->SV}(hf:∀x,f (f x)=f x):∀(T:TT),(T.map f).map f=T.map f
 |.nil=>rfl
 |.node l v r=>by simp only[TT.map,TT.Qz5 hf l,TT.Qz5 hf r];cases v<;>simp[hf]
theorem Qb.Qct(d:List Nat)(o:Qb):(o.forget d).forget d=o.forget d:=by
 cases o with
 |mix ty sz rows=>simp only[Qb.forget,ZQ,Qb.mix.injEq,true_and];refine ZE fun r _=>?_;simp only[Function.comp,ZQ];exact ZE fun x _=>SV.Qct d x
 |map es c=>simp only[Qb.forget,ZQ,Qb.map.injEq,and_true];refine ZE fun e _=>?_;simp only[Function.comp,SV.Qct]
 |loop l=>simp only[Qb.forget,TT.Qz5 (SV.Qct d)]
 |tlnk ty row l r c x=>simp only[Qb.forget,SV.Qct]
 |nest ty ity row ll q=>cases q with
  |none=>rfl
  |some x=>simp only[Qb.forget,ZO,SV.Qct]
 |mit m c s=>
  cases m with
  |none=>rfl
  |some x=>
   simp only[Qb.forget,ZT,Qb.mit.injEq,and_true];cases h:d.contains x with
   |true=>rfl
   |false=>simp only[cond_false,ZT,h]
 |_=>rfl
structure Qnr (D ids mv:List Nat) (b:St) (M:Qd) (Z:Env) (H:List Qb) (a:Act) (w:World):Prop where
 len:H.length=b.H.length
 slots:∀t y,t∉D->b.T.get t=some y->Qf M Z (a.tmps.getD t undef) (y.forget mv)
 objs:∀(s:Nat) (o:Qb),s∉ids->b.H[s]? =some o->Q6 M Z w s (o.forget mv)∧(o.live=true->∃o':Qb,H[s]? =some o'∧o'.live=true)
 back:∀(s:Nat) (o:Qb),s∉ids->H[s]? =some o->o.live=true->∃o0:Qb,b.H[s]? =some o0∧o0.live=true
theorem Qmh{M:Qd}{Z:Env}{w:World}{s ty sz:Nat}{o:Qb}{r:List SV}(h:Qaw o=some (ty,sz,r)):o.live=true∧o.Q8 =some sz∧o.len=1∧(Q6 M Z w s o->Q6 M Z w s (.mix ty sz [r])):=by
 unfold Qaw at h;split at h
 ·cases h;exact⟨rfl,rfl,rfl,fun h=>h.Qth⟩
 ·cases h;exact⟨rfl,rfl,rfl,id⟩
 ·rename_i ty' row x;cases h;exact⟨rfl,rfl,rfl,fun h=>by have h:Q6 M Z w s (.vec ty row.length [Zn row x]):=h;exact h.Qth⟩
 ·cases h
theorem Q6.Zl2{M M2:Qd}{Z ρ2:Env}{w:World}{s ty sz:Nat}{r r':List SV}(hs:ρ2 s=Z s)(hl:r'.length=sz)
  (hr:∀(j:Nat) (y:SV),r'[j]? =some y->y=.any∨∃x:SV,r[j]? =some x∧∀u,Qf M Z u x->Qf M2 ρ2 u y) (h:Q6 M Z w s (.mix ty sz [r])):Q6 M2 ρ2 w s (.mix ty sz [r']):=by
 rcases h with⟨h1,h2⟩|⟨p,h1,h2⟩
 ·cases h2
 ·refine .inr ⟨p,hs.trans h1,?_⟩;obtain⟨cs,a1,a2,a3,a4,a5,a6⟩:=h2.ex;have hin:∀i j x,Xo [r'] i j=some x->i=0∧r'[j]? =some x:=fun i j x hx=>by
   unfold Xo at hx;cases i with
   |zero=>exact⟨rfl,by simpa using hx⟩
   |succ i=>simp at hx
  refine⟨cs,a1,a2,a3,a4,fun i j x v hx hv=>?_,fun i j x hx=>?_⟩
  ·obtain⟨rfl,hj⟩:=hin i j x hx;have hjs:j<sz:=by rw[<-hl];exact(ZG.1 hj).1
   refine⟨by simp,hjs,?_⟩;rcases hr j x hj with rfl|⟨x0,g1,g2⟩
   ·exact .any _
   ·exact g2 v (a5 0 j x0 v (by simp[Xo,g1]) hv).2.2
  ·obtain⟨rfl,hj⟩:=hin i j x hx;exact⟨by simp,by rw[<-hl];exact(ZG.1 hj).1⟩
theorem Zgc{k v:Qe}{H:List Qb}{n:Nat}:∀{es:List Zo} {i:Nat} {c:Bool} {l:List (k.El×v.El)},Qfw k v H n i es=some (c,l)->c=true->l.length=es.length∧
  ∀(j:Nat) (x:k.El×v.El),l[j]? =some x->∃e,es[j]? =some e∧e.2.2=i+j∧k.Qcv (.lit e.1)=some x.1∧rdA H n v e.2.1=some (true,x.2)
 |[],i,c,l,h,hc=>by cases h;exact⟨rfl,fun j x hx=>by simp at hx⟩
 |e::es,i,c,l,h,hc=>by
  simp only[Qfw]at h;split at h
  ·cases h
  ·rename_i hb;split at h
   ·cases h
   ·rename_i a ha;split at h
    ·cases h
    ·rename_i b hb2;split at h
     ·cases h
     ·rename_i d hd;cases h;rw[ZA]at hc;obtain⟨g1,g2⟩:=Zgc (c:=d.1) (l:=d.2) hd hc.2;refine⟨by simp[g1],fun j x hx=>?_⟩;cases j with
      |zero=>simp at hx;subst hx;exact⟨e,rfl,C hb,ha,by rw[hb2,<-hc.1]⟩
      |succ j=>obtain⟨e',q1,q2,q3⟩:=g2 j x (by simpa using hx);exact⟨e',by simpa using q1,by omega,q3⟩
theorem Wz.data{M:Qd}{Z ρ2:Env}{H:List Qb}{w:World}{n s:Nat}(hm:Mem M Z H w){k v:Qe}{es:List Zo}{c:Nat}{cc:Bool}{l:List (k.El×v.El)}(hs:ρ2 s=Z s)(h:Wz M Z w s es c)(hlen:c=es.length)(hk:k.scalar=true)(hd:Qfw k v H n 0 es=some (cc,l))(hc:cc=true):
  Wz (M.sealing Z H n w) ρ2 w s (Xb k v 0 l) l.length:=by
 obtain⟨g1,g2⟩:=Zgc hd hc;obtain⟨p,arr,h1,h2,h3,h4⟩:=h;refine⟨p,arr,hs.trans h1,by rw[g1,<-hlen];exact h2,by rw[Qb8,g1];exact h3,fun i kk x b hi=>?_⟩;rw[Ky]at hi;simp only[ZC,Prod.mk.injEq]at hi;obtain⟨y,hy,rfl,rfl,rfl⟩:=hi;obtain⟨e,q1,q2,q3,q4⟩:=g2 i y hy;obtain⟨me,m1,m2,m3,m4⟩:=h4 i e.1 e.2.1 e.2.2 q1;refine⟨me,m1,?_,by rw[m3,q2],Ztv hm q4 rfl m4⟩;rw[m2];exact Qps hk (Qe.Qeo (M:=M) (Z:=Z) q3 (.pv (.lit _)))
theorem Ymi{M:Qd}{Z ρ2:Env}{w:World}{s:Nat}{k v k' v':Qe}{l:List (k.El×v.El)}{l':List (k'.El×v'.El)}(h:Qk6 k v k' v' l=some l')(ho:Wz M Z w s (Xb k v 0 l) l.length):Wz M Z w s (Xb k' v' 0 l') l'.length:=by obtain⟨e,e',rfl⟩:=Zvi h;subst e;subst e';exact ho
inductive Qjl:(l:PL)->Jd l->Nat->(a:Qe)->a.El->Prop where
 |one (p:Nat×Qe) (x:p.2.El):Qjl [p] x p.1 p.2 x
 |head (p p':Nat×Qe) (l:PL) (x:p.2.El×Jd (p'::l)):Qjl (p::p'::l) x p.1 p.2 x.1
 |tail (p p':Nat×Qe) (l:PL) (x:p.2.El×Jd (p'::l)) (j:Nat) (a:Qe) (y:a.El) (h:Qjl (p'::l) x.2 j a y):Qjl (p::p'::l) x j a y
theorem Zlt:∀{l:PL} {x:Jd l} {r:List SV} {j:Nat} {y:SV},(Qal l x r)[j]? =some y->(∃a z,Qjl l x j a z∧y=a.sv z)∨r[j]? =some y
 |[],x,r,j,y,h=>.inr h
 |[p],x,r,j,y,h=>by
  simp only[Qal,ZK]at h;split at h
  ·rename_i e;subst e;split at h
   ·cases h;exact .inl ⟨p.2,x,.one p x,rfl⟩
   ·cases h
  ·exact .inr h
 |p::p'::l,x,r,j,y,h=>by
  have h0:(Qal (p'::l) x.2 (r.set p.1 (p.2.sv x.1)))[j]? =some y:=h;clear h;rcases Zlt h0 with⟨a,z,h1,h2⟩|h
  ·exact .inl ⟨a,z,.tail _ _ _ _ _ _ _ h1,h2⟩
  ·rw[ZK]at h;split at h
   ·rename_i e;subst e;split at h
    ·cases h;exact .inl ⟨p.2,x.1,.head _ _ _ _,rfl⟩
    ·cases h
   ·exact .inr h
theorem Zdr:∀{l:PL} {x:Jd l} {r:List SV},(Qal l x r).length=r.length
 |[],x,r=>rfl
 |[p],x,r=>by simp[Qal]
 |p::p'::l,x,r=>by show(Qal (p'::l) x.2 _).length=_;rw[Zdr];simp
theorem Zh3{H:List Qb}{n:Nat}{r:List SV}:∀{l:PL} {c:Bool} {x:Jd l},Qfa H n r l=some (c,x)->c=true->∀j a (z:a.El),Qjl l x j a z->∃y,r[j]? =some y∧rdA H n a y=some (true,z)
 |[],c,x,h,hc,j,a,z,hi=>by cases hi
 |[p],c,x,h,hc,j,a,z,hi=>by
  simp only[Qfa]at h;split at h
  ·rename_i y hy;cases hi with
   |one=>exact⟨y,hy,by rw[h,hc];rfl⟩
  ·cases h
 |p::p'::l,c,x,h,hc,j,a,z,hi=>by
  simp only[Qfa]at h;split at h
  ·cases h
  ·rename_i y hy;split at h
   ·cases h
   ·rename_i a' ha;split at h
    ·cases h
    ·rename_i b hb;cases h;rw[ZA]at hc;cases hi with
     |head=>exact⟨y,hy,by rw[ha,<-hc.1]⟩
     |tail _ _ _ _ _ _ _ hi=>exact Zh3 (c:=b.1) (x:=b.2) hb hc.2 j a z hi
theorem Zd0{H:List Qb}:∀{l:List (Nat×Lk)} {r:List SV} {j:Nat} {y:SV},(Qcx H l r)[j]? =some y->(∃q∈l,q.1=j∧y=Qep H q.2)∨r[j]? =some y
 |[],r,j,y,h=>.inr h
 |q::l,r,j,y,h=>by
  simp only[Qcx]at h;rcases Zd0 h with⟨q',h1,h2⟩|h
  ·exact .inl ⟨q',ZD _ h1,h2⟩
  ·rw[ZK]at h;split at h
   ·rename_i e;split at h
    ·cases h;exact .inl ⟨q,ZH,e,rfl⟩
    ·cases h
   ·exact .inr h
theorem Zf9{H:List Qb}:∀{l:List (Nat×Lk)} {r:List SV},(Qcx H l r).length=r.length
 |[],r=>rfl
 |q::l,r=>by simp[Qcx,Zf9]
theorem Zk7{H:List Qb}{n:Nat}{r:List SV}:∀{l:List (Nat×Lk)} {c:Bool},Qiu H n r l=some c->c=true->∀q∈l,∃x,r[q.1]? =some x∧Qe4 H n x q.2=some true
 |[],c,h,hc,q,hq=>by cases hq
 |p::l,c,h,hc,q,hq=>by
  simp only[Qiu]at h;split at h
  ·cases h
  ·rename_i x hx;split at h
   ·cases h
   ·rename_i c1 h1;split at h
    ·cases h
    ·rename_i d hd;cases h;rw[ZA]at hc;rcases ZI.1 hq with rfl|hq
     ·exact⟨x,hx,by rw[h1,hc.1]⟩
     ·exact Zk7 hd hc.2 q hq
theorem Zgf{T:TT}{H:List Qb}{n:Nat}:∀{l:List (Nat×Lk)} {c:Bool},Qsa T H n l=some c->c=true->∀q∈l,∃x,T.get q.1=some x∧Qe4 H n x q.2=some true
 |[],c,h,hc,q,hq=>by cases hq
 |p::l,c,h,hc,q,hq=>by
  simp only[Qsa]at h;split at h
  ·cases h
  ·rename_i x hx;split at h
   ·cases h
   ·rename_i c1 h1;split at h
    ·cases h
    ·rename_i d hd;cases h;rw[ZA]at hc;rcases ZI.1 hq with rfl|hq
     ·exact⟨x,hx,by rw[h1,hc.1]⟩
     ·exact Zgf hd hc.2 q hq
theorem Qf.Zmi{M M2:Qd}{Z:Env}{H:List Qb}{w:World}(hm:Mem M Z H w)(hle:M.le M2)(n:Nat){v:Value}{x:SV}(hf:x.free n=true)(h:Qf M Z v x):Qf M2 (Z.cut n) v x:=by have:=h.forget (d:=U0 n H.length) hle (Qiv hm n);rwa[SV.Qcu x hf]at this
def Qqs(n:Nat)(H H1:List Qb)(lk:Lk):Prop:=match lk with
 |.stat _=>True
 |.own s=>s<n->∀o sz,H[s]? =some o->o.szl=some sz->∃o1,H1[s]? =some o1∧o1.szl=some sz∧o1.len=o.len
theorem Zlc{M M2:Qd}{Z:Env}{H H1:List Qb}{w:World}{n:Nat}(hm:Mem M Z H w)(hle:M.le M2){x:SV}{lk:Lk}(h:Qe4 H n x lk=some true)(hl:Qqs n H H1 lk){v:Value}(hr:Qf M Z v x):Qf M2 (Z.cut n) v (Qep H1 lk):=by
 cases lk with
 |stat y=>
  simp only[Qe4]at h;split at h
  ·rename_i e;rw[ZA]at e;have:=SV.Qz2 _ _ e.1;subst this;exact hr.Zmi hm hle n e.2
  ·cases h
 |own s=>
  simp only[Qe4]at h;split at h
  ·rename_i s' sz st m;split at h
   ·cases h
   ·rename_i e;simp only[ZA]at e;have e1:=C e.1;have e2:=C e.2.1;have e3:=Qa1 e.2.2;subst e1;subst e2;split at h
    ·cases h
    ·rename_i o ho;split at h
     ·cases h
     ·rename_i sz' hsz;split at h
      ·rename_i e4;have e4:=C e4;subst e4;have hmm:m=o.len:=by simpa using h
       obtain⟨o1,q1,q2,q3⟩:=hl e3 o sz' ho hsz;have hx:Qep H1 (.own s')=.sl s' sz' 0 o.len:=by simp only[Qep,q1,q2,q3]
       rw[hx,<-hmm];exact hr.Zmi hm hle n (by simp only[SV.free];exact e.2.2)
      ·cases h
  ·cases h
theorem Qb3{l m:List Nat}(h:subset l m=true){x:Nat}(hx:x∈l):x∈m:=by have:=ZF.1 h x hx;simpa using this
theorem Qu.Qz0{T:TT}{H H1:List Qb}{n:Nat}{c:Qu}{cc:Bool}{x:c.El}{s:Nat}(h:c.get T H n=some (cc,x))(hc:cc=true)(hs:c.id? =some s):
  ∃o,H[s]? =some o∧o.live=true∧(∀sz,o.szl=some sz->(c.obj H1 x).szl=some sz∧(c.obj H1 x).len=o.len):=by
 cases c with
 |slot=>cases hs
 |vec d ty row=>
  cases hs;have h:(match H[s]? with
   |some (.tvec ty' row' l)=>match ZB ty' ty with
    |true=>match Ug row' row l with
     |some l=>some (true,l)
     |none=>none
    |false=>none
   |some (.vec ty' sz rows)=>match ZB ty' ty&&ZB sz row.length with
    |true=>match Wo (ofRow row) rows with
     |some l=>some (true,l)
     |none=>none
    |false=>none
   |some (.mix ty' sz rows)=>match ZB ty' ty&&ZB sz row.length with
    |true=>Qay (Vh H n row) rows
    |false=>none
   |_=>none)=some (cc,x):=h
  split at h
  ·rename_i ty' row' l ho;refine⟨_,ho,rfl,fun sz hsz=>?_⟩;split at h
   ·split at h
    ·rename_i l' hl;cases h;obtain⟨e,rfl⟩:=Qbd hl;subst e;exact⟨hsz,rfl⟩
    ·cases h
   ·cases h
  ·rename_i ty' sz' rows ho;refine⟨_,ho,rfl,fun sz hsz=>?_⟩;split at h
   ·rename_i e;rw[ZA]at e;split at h
    ·rename_i l hl;cases h;have e2:=C e.2;simp only[Qb.szl,ZJ]at hsz;exact⟨by simp only[Qu.obj,Qb.szl];rw[<-e2,hsz],(Qme hl).1⟩
    ·cases h
   ·cases h
  ·rename_i ty' sz' rows ho;refine⟨_,ho,rfl,fun sz hsz=>?_⟩;split at h
   ·rename_i e;rw[ZA]at e;have e2:=C e.2;simp only[Qb.szl,ZJ]at hsz;refine⟨by simp only[Qu.obj,Qb.szl];rw[<-e2,hsz],?_⟩;have key:∀(rs:List (List SV)) (c:Bool) (l:List (Ql row)),Qay (Vh H n row) rs=some (c,l)->l.length=rs.length:=by
     intro rs;induction rs with
     |nil=>intro c l h;cases h;rfl
     |cons r rs ih=>
      intro c l h;simp only[Qay]at h;split at h
      ·cases h
      ·split at h
       ·cases h
       ·rename_i b hb;cases h;simp[ih b.1 b.2 hb]
    exact key _ _ _ h
   ·cases h
  ·cases h
 |one d ty row=>
  cases hs;have h:(match H[s]? with
   |some o=>match Qaw o with
    |some (ty',sz,r)=>match ZB ty' ty&&ZB sz row.length with
     |true=>Vh H n row r
     |false=>none
    |none=>none
   |none=>none)=some (cc,x):=h
  split at h
  ·rename_i o ho;split at h
   ·rename_i ty' sz' r hr;obtain⟨g1,g2,g3,_⟩:=Qmh (M:=fun _=>none) (Z:=fun _=>none) (w:=default) (s:=0) hr;refine⟨o,ho,g1,fun sz hsz=>?_⟩;split at h
    ·rename_i e;rw[ZA]at e;have g2:=Qb.Zmd g2;rw[hsz]at g2;cases g2;have e2:=C e.2;exact⟨by simp only[Qu.obj,Qb.szl];rw[<-e2],by rw[g3];rfl⟩
    ·cases h
   ·cases h
  ·cases h
 |mix d ty sz0 dat lnk=>
  cases hs;have h:(match H[s]? with
   |some o=>match Qaw o with
    |some (ty',sz',r)=>match ZB ty' ty&&ZB sz' sz0 with
     |true=>match Qiu H n r lnk with
      |some c=>match Qfa H n r dat with
       |some x=>some (c&&x.1,x.2)
       |none=>none
      |none=>none
     |false=>none
    |none=>none
   |none=>none)=some (cc,x):=h
  split at h
  ·rename_i o ho;split at h
   ·rename_i ty' sz' r hr;obtain⟨g1,g2,g3,_⟩:=Qmh (M:=fun _=>none) (Z:=fun _=>none) (w:=default) (s:=0) hr;refine⟨o,ho,g1,fun sz hsz=>?_⟩;split at h
    ·rename_i e;rw[ZA]at e;have g2:=Qb.Zmd g2;rw[hsz]at g2;cases g2;have e2:=C e.2;exact⟨by simp only[Qu.obj,Qb.szl];rw[<-e2],by rw[g3];rfl⟩
    ·cases h
   ·cases h
  ·cases h
 |map d k v=>
  cases hs;have h:(match H[s]? with
   |some (.tmap k' v' l)=>match Qk6 k' v' k v l with
    |some l=>some (true,l)
    |none=>none
   |some (.map es c)=>match ZB c es.length&&k.scalar with
    |true=>Qfw k v H n 0 es
    |false=>none
   |_=>none)=some (cc,x):=h
  split at h
  ·rename_i k' v' l ho;exact⟨_,ho,rfl,fun sz hsz=>by cases hsz⟩
  ·rename_i es c ho;exact⟨_,ho,rfl,fun sz hsz=>by cases hsz⟩
  ·cases h
 |iter d=>
  cases hs;have h:(match H[s]? with
   |some (.iter b pos)=>some (true,(b,pos))
   |_=>none)=some (cc,x):=h
  split at h
  ·rename_i b pos ho;exact⟨_,ho,rfl,fun sz hsz=>by cases hsz⟩
  ·cases h
 |over d pd=>
  cases hs;have h:(match H[s]? with
   |some (.over .done pd')=>match Qmo pd' pd with
    |true=>some (true,())
    |false=>none
   |_=>none)=some (cc,x):=h
  split at h
  ·rename_i pd' ho;exact⟨_,ho,rfl,fun sz hsz=>by cases hsz⟩
  ·cases h
 |nest d ty ity row=>
  cases hs;have h:(match H[s]? with
   |some (.nest ty' ity' row' ll none)=>match ZB ty' ty&&ZB ity' ity with
    |true=>match Qop row' row ll with
     |some l=>some (true,l)
     |none=>none
    |false=>none
   |_=>none)=some (cc,x):=h
  split at h
  ·rename_i ty' ity' row' ll ho;split at h
   ·split at h
    ·rename_i l' hl;cases h;obtain⟨e,rfl⟩:=Zj3 hl;subst e;exact⟨_,ho,rfl,fun sz hsz=>⟨hsz,rfl⟩⟩
    ·cases h
   ·cases h
  ·cases h
 |fix d es c=>
  cases hs;have h:(match H[s]? with
   |some o'=>match Qm3 o' (.map es c)&&(Qb.map es c).free n with
    |true=>some (true,())
    |false=>none
   |none=>none)=some (cc,x):=h
  split at h
  ·rename_i o' ho;split at h
   ·rename_i e;rw[ZA]at e;have:=Zce e.1;subst this;exact⟨_,ho,rfl,fun sz hsz=>by cases hsz⟩
   ·cases h
  ·cases h
 |mit d m=>
  cases hs;have h:(match H[s]? with
   |some (.mit (some m') c sn)=>match ZB m' m&&ZM m n with
    |true=>some (true,(c,sn))
    |false=>none
   |_=>none)=some (cc,x):=h
  split at h
  ·rename_i m' c sn ho;split at h
   ·rename_i e;rw[ZA]at e;have e1:=C e.1;subst e1;exact⟨_,ho,rfl,fun sz hsz=>by cases hsz⟩
   ·cases h
  ·cases h
theorem Qu.Zmc{M:Qd}{Z:Env}{w:World}{T:TT}{H H1:List Qb}{n:Nat}(hm:Mem M Z H w){c:Qu}{cc:Bool}{x:c.El}{s:Nat}(h:c.get T H n=some (cc,x))(hc:cc=true)(hs:c.id? =some s)(hsn:s<n)
  (hlk:∀q∈c.Zmj,Qqs n H H1 q.2):Q6 (M.sealing Z H n w) (Z.cut n) w s (c.obj H1 x):=by
 have hle:=Qd.W0 M Z H n w;have hcut:(Z.cut n) s=Z s:=by simp[Env.cut,hsn]
 cases c with
 |slot=>cases hs
 |vec d ty row=>
  cases hs;have h:(match H[s]? with
   |some (.tvec ty' row' l)=>match ZB ty' ty with
    |true=>match Ug row' row l with
     |some l=>some (true,l)
     |none=>none
    |false=>none
   |some (.vec ty' sz rows)=>match ZB ty' ty&&ZB sz row.length with
    |true=>match Wo (ofRow row) rows with
     |some l=>some (true,l)
     |none=>none
    |false=>none
   |some (.mix ty' sz rows)=>match ZB ty' ty&&ZB sz row.length with
    |true=>Qay (Vh H n row) rows
    |false=>none
   |_=>none)=some (cc,x):=h
  show Q6 _ _ w s (.tvec ty row x);split at h
  ·rename_i ty' row' l ho;split at h
   ·rename_i e;have e:=C e;subst e;split at h
    ·rename_i l' hl;cases h;obtain⟨e,rfl⟩:=Qbd hl;subst e;have h0:Q6 M Z w s (.tvec ty' row' l):=hm.own s _ ho;replace h0:Q6 M Z w s (.vec ty' row'.length (Q0 row' l)):=h0;exact h0.Qth.Qno hle hcut (.self hle l)
    ·cases h
   ·cases h
  ·rename_i ty' sz rows ho;split at h
   ·rename_i e;rw[ZA]at e;have e1:=C e.1;have e2:=C e.2;subst e1;subst e2;split at h
    ·rename_i l hl;cases h;have h0:Q6 M Z w s (.vec ty' row.length rows):=hm.own s _ ho;exact h0.Qth.Qno hle hcut (Qcb.of hle hl)
    ·cases h
   ·cases h
  ·rename_i ty' sz rows ho;split at h
   ·rename_i e;rw[ZA]at e;have e1:=C e.1;have e2:=C e.2;subst e1;subst e2;have h0:Q6 M Z w s (.mix ty' row.length rows):=hm.own s _ ho;exact h0.Qno hle hcut (Qqi (Qlc n hm row) _ _ _ h hc)
   ·cases h
  ·cases h
 |one d ty row=>
  cases hs;have h:(match H[s]? with
   |some o=>match Qaw o with
    |some (ty',sz,r)=>match ZB ty' ty&&ZB sz row.length with
     |true=>Vh H n row r
     |false=>none
    |none=>none
   |none=>none)=some (cc,x):=h
  show Q6 _ _ w s (.vec ty row.length [Zn row x]);split at h
  ·rename_i o ho;split at h
   ·rename_i ty' sz' r hr;split at h
    ·rename_i e;rw[ZA]at e;have e1:=C e.1;have e2:=C e.2;subst e1;subst e2;have h0:=(Qmh (M:=M) (Z:=Z) (w:=w) (s:=s) hr).2.2.2 (hm.own s _ ho);have:=Qlc n hm row r cc x h hc;have hrf:Qcb M Z (M.sealing Z H n w) row [r] [x]:=⟨rfl,fun i y hy=>by
      match i,hy with
      |0,hy=>cases hy;exact⟨r,rfl,this⟩
      |i+1,hy=>cases hy⟩
     exact Q6.Qno (l:=[x]) hle hcut hrf h0
    ·cases h
   ·cases h
  ·cases h
 |mix d ty sz0 dat lnk=>
  cases hs;have h:(match H[s]? with
   |some o=>match Qaw o with
    |some (ty',sz',r)=>match ZB ty' ty&&ZB sz' sz0 with
     |true=>match Qiu H n r lnk with
      |some c=>match Qfa H n r dat with
       |some x=>some (c&&x.1,x.2)
       |none=>none
      |none=>none
     |false=>none
    |none=>none
   |none=>none)=some (cc,x):=h
  show Q6 _ _ w s (.mix ty sz0 [Qcx H1 lnk (Qal dat x (ZP sz0 .any))]);split at h
  ·rename_i o ho;split at h
   ·rename_i ty' sz' r hr;split at h
    ·rename_i e;rw[ZA]at e;have e1:=C e.1;have e2:=C e.2;subst e1;subst e2;split at h
     ·rename_i c1 hl1;split at h
      ·rename_i x1 hx1;cases h;rw[ZA]at hc;have h0:=(Qmh (M:=M) (Z:=Z) (w:=w) (s:=s) hr).2.2.2 (hm.own s _ ho);refine Q6.Zl2 hcut (by rw[Zf9,Zdr,List.length_replicate]) (fun j y hy=>?_) h0;rcases Zd0 hy with⟨q,hq,rfl,rfl⟩|hy
       ·obtain⟨x,g1,g2⟩:=Zk7 hl1 hc.1 q hq;exact .inr ⟨x,g1,fun u hu=>Zlc hm hle g2 (hlk q hq) hu⟩
       ·rcases Zlt hy with⟨a,z,hz,rfl⟩|hy
        ·obtain⟨x,g1,g2⟩:=Zh3 (c:=x1.1) (x:=x1.2) hx1 hc.2 j a z hz;exact .inr ⟨x,g1,fun u hu=>Qu5 hm g2 rfl hu⟩
        ·rw[List.getElem?_replicate]at hy;split at hy
         ·cases hy;exact .inl rfl
         ·cases hy
      ·cases h
     ·cases h
    ·cases h
   ·cases h
  ·cases h
 |map d k v=>
  cases hs;have h:(match H[s]? with
   |some (.tmap k' v' l)=>match Qk6 k' v' k v l with
    |some l=>some (true,l)
    |none=>none
   |some (.map es c)=>match ZB c es.length&&k.scalar with
    |true=>Qfw k v H n 0 es
    |false=>none
   |_=>none)=some (cc,x):=h
  show Wz _ _ w s (Xb k v 0 x) (List.length x);split at h
  ·rename_i k' v' l ho;split at h
   ·rename_i l' hl;cases h;refine Ymi (ρ2:=Z) hl ?_;have h0:Q6 M Z w s (.tmap k' v' l):=hm.own s _ ho;have:=h0.forget (d:=U0 n H.length) hle (Qiv hm n) hcut (fun _ _ _ _=>rfl);exact this
   ·cases h
  ·rename_i es c ho;split at h
   ·rename_i e;rw[ZA]at e;exact Wz.data hm hcut (hm.own s _ ho) (C e.1) e.2 h hc
   ·cases h
  ·cases h
 |iter d=>
  cases hs;have h:(match H[s]? with
   |some (.iter b pos)=>some (true,(b,pos))
   |_=>none)=some (cc,x):=h
  split at h
  ·rename_i b pos ho;cases h;obtain⟨p,h1,h2⟩:=hm.own s _ ho;exact⟨p,hcut.trans h1,h2⟩
  ·cases h
 |over d pd=>
  cases hs;have h:(match H[s]? with
   |some (.over .done pd')=>match Qmo pd' pd with
    |true=>some (true,())
    |false=>none
   |_=>none)=some (cc,x):=h
  split at h
  ·rename_i pd' ho;split at h
   ·rename_i e;cases h;obtain⟨p,r,h1,h2,h3,h4⟩:=hm.own s _ ho;exact⟨p,r,hcut.trans h1,h2,h3,h4.trans (Zwe e)⟩
   ·cases h
  ·cases h
 |nest d ty ity row=>
  cases hs;have h:(match H[s]? with
   |some (.nest ty' ity' row' ll none)=>match ZB ty' ty&&ZB ity' ity with
    |true=>match Qop row' row ll with
     |some l=>some (true,l)
     |none=>none
    |false=>none
   |_=>none)=some (cc,x):=h
  split at h
  ·rename_i ty' ity' row' ll ho;split at h
   ·rename_i e;rw[ZA]at e;have e1:=C e.1;have e2:=C e.2;subst e1;subst e2;split at h
    ·rename_i l' hl;cases h;obtain⟨e,rfl⟩:=Zj3 hl;subst e;exact(hm.own s _ ho).forget (d:=U0 n H.length) hle (Qiv hm n) hcut (fun _ _ _ _=>rfl)
    ·cases h
   ·cases h
  ·cases h
 |fix d es c=>
  cases hs;have h:(match H[s]? with
   |some o'=>match Qm3 o' (.map es c)&&(Qb.map es c).free n with
    |true=>some (true,())
    |false=>none
   |none=>none)=some (cc,x):=h
  split at h
  ·rename_i o' ho;split at h
   ·rename_i e;rw[ZA]at e;have:=Zce e.1;subst this;have h0:=(hm.own s _ ho).forget (d:=U0 n H.length) hle (Qiv hm n) hcut (fun _ _ _ _=>rfl);rw[Qb.Qcu _ e.2]at h0;exact h0
   ·cases h
  ·cases h
 |mit d m=>
  cases hs;have h:(match H[s]? with
   |some (.mit (some m') c sn)=>match ZB m' m&&ZM m n with
    |true=>some (true,(c,sn))
    |false=>none
   |_=>none)=some (cc,x):=h
  split at h
  ·rename_i m' c sn ho;split at h
   ·rename_i e;rw[ZA]at e;have e1:=C e.1;subst e1;have e2:=e.2;rw[Nat.blt_eq]at e2;cases h;obtain⟨p,q,sn,h1,h2,h3,h4⟩:=hm.own s _ ho;refine⟨p,q,sn,hcut.trans h1,h2,h3,fun mm em=>?_⟩;cases em;obtain⟨pm,a1,a2⟩:=h4 m' rfl;exact⟨pm,by simp[Env.cut,e2,a1],a2⟩
   ·cases h
  ·cases h
inductive U9:(l:List Qu)->Yo l->(c:Qu)->c.El->Prop where
 |one (c:Qu) (x:c.El):U9 [c] x c x
 |head (c c':Qu) (l:List Qu) (x:c.El×Yo (c'::l)):U9 (c::c'::l) x c x.1
 |tail (c c':Qu) (l:List Qu) (x:c.El×Yo (c'::l)) (d:Qu) (y:d.El) (h:U9 (c'::l) x.2 d y):U9 (c::c'::l) x d y
theorem U9.mem:∀{l:List Qu} {x:Yo l} {k:Qu} {z:k.El},U9 l x k z->k∈l
 |_,_,_,_,.one c x=>by simp
 |_,_,_,_,.head c c' l x=>by simp
 |_,_,_,_,.tail c c' l x d y hi=>ZD _ hi.mem
theorem Yqt{l:List Qu}{x:Yo l}{k:Qu}{z:k.El}{s:Nat}(hi:U9 l x k z)(h:k.id? =some s):s∈l.filterMap Qu.id? :=ZL.2 ⟨k,hi.mem,h⟩
theorem Zhf{T:TT}{H:List Qb}{n:Nat}:∀{l:List Qu} {c:Bool} {x:Yo l},Qsl T H n l=some (c,x)->c=true->∀(k:Qu) (y:k.El),U9 l x k y->k.get T H n=some (true,y)
 |[],c,x,h,hc,k,y,hi=>by cases hi
 |[k0],c,x,h,hc,k,y,hi=>by
  cases hi with
  |one=>rw[<-hc];exact h
 |k0::k1::l,c,x,h,hc,k,y,hi=>by
  simp only[Qsl]at h;split at h
  ·cases h
  ·rename_i a h1;split at h
   ·cases h
   ·rename_i b h2;cases h;rw[ZA]at hc;cases hi with
    |head=>rw[h1,<-hc.1]
    |tail _ _ _ _ _ _ hi=>exact Zhf (c:=b.1) (x:=b.2) h2 hc.2 k y hi
theorem Qu.put_H{H0:List Qb}{c:Qu}{x:c.El}{T:TT}{H:List Qb}{s:Nat}{o:Qb}(h:(c.put H0 x (T,H)).2[s]? =some o):(c.id? =some s∧o=c.obj H0 x)∨(c.id? ≠some s∧H[s]? =some o):=by
 have key:∀(d:Nat) (ob:Qb),(H.set d ob)[s]? =some o->(some d=some s∧o=ob)∨(some d≠some s∧H[s]? =some o):=fun d ob h'=>by
  clear h;rw[ZK]at h';split at h'
  ·rename_i e;subst e;split at h'
   ·cases h';exact .inl ⟨rfl,rfl⟩
   ·cases h'
  ·rename_i e;exact .inr ⟨by simp[e],h'⟩
 cases c with
 |slot d ty=>exact .inr ⟨by simp[Qu.id?],h⟩
 |vec d ty row=>exact key d _ h
 |one d ty row=>exact key d _ h
 |mix d ty sz dat lnk=>exact key d _ h
 |map d k v=>exact key d _ h
 |iter d=>exact key d _ h
 |over d pd=>exact key d _ h
 |nest d ty ity row=>exact key d _ h
 |fix d es c=>exact key d _ h
 |mit d m=>exact key d _ h
theorem Qu.Zl5{H0:List Qb}{c:Qu}{x:c.El}{T:TT}{H:List Qb}{t:Nat}{y:SV}(h:(c.put H0 x (T,H)).1.get t=some y):(∃(a:Qe) (z:a.El),HEq x z∧c=.slot t a∧y=a.sv z)∨T.get t=some y:=by
 cases c with
 |slot d a=>
  rcases TT.Kv _ _ _ _ _ h with⟨rfl,rfl⟩|⟨_,h⟩
  ·exact .inl ⟨a,x,HEq.rfl,rfl,rfl⟩
  ·exact .inr h
 |vec _ _ _=>exact .inr h
 |one _ _ _=>exact .inr h
 |mix _ _ _ _ _=>exact .inr h
 |map _ _ _=>exact .inr h
 |iter _=>exact .inr h
 |over _ _=>exact .inr h
 |nest _ _ _ _=>exact .inr h
 |fix _ _ _=>exact .inr h
 |mit _ _=>exact .inr h
theorem Zhi{H0:List Qb}:∀{l:List Qu} {x:Yo l} {T:TT} {H:List Qb} {t:Nat} {y:SV},(K2 H0 l x (T,H)).1.get t=some y->(∃(a:Qe) (z:a.El),U9 l x (.slot t a) z∧y=a.sv z)∨T.get t=some y
 |[],x,T,H,t,y,h=>.inr h
 |[c],x,T,H,t,y,h=>by
  rcases Qu.Zl5 h with⟨a,z,he,rfl,rfl⟩|h
  ·cases he;exact .inl ⟨a,_,.one _ _,rfl⟩
  ·exact .inr h
 |c::c'::l,x,T,H,t,y,h=>by
  have h:(K2 H0 (c'::l) x.2 ((c.put H0 x.1 (T,H)).1,(c.put H0 x.1 (T,H)).2)).1.get t=some y:=h;rcases Zhi h with⟨a,z,hi,hy⟩|h
  ·exact .inl ⟨a,z,.tail _ _ _ _ _ _ hi,hy⟩
  ·obtain⟨x1,x2⟩:=x;rcases Qu.Zl5 h with⟨a,z,he,rfl,rfl⟩|h
   ·cases he;exact .inl ⟨a,_,.head _ _ _ _,rfl⟩
   ·exact .inr h
theorem Qkp{H0:List Qb}:∀{l:List Qu} {x:Yo l} {T:TT} {H:List Qb} {s:Nat} {o:Qb},(K2 H0 l x (T,H)).2[s]? =some o->
  (∃(c:Qu) (z:c.El),U9 l x c z∧c.id? =some s∧o=c.obj H0 z)∨(s∉l.filterMap Qu.id? ∧H[s]? =some o)
 |[],x,T,H,s,o,h=>.inr ⟨by simp,h⟩
 |[c],x,T,H,s,o,h=>by
  rcases Qu.put_H h with⟨e,ho⟩|⟨e,h⟩
  ·exact .inl ⟨c,x,.one _ _,e,ho⟩
  ·refine .inr ⟨fun hm=>?_,h⟩;obtain⟨d,hd,he⟩:=ZL.1 hm;simp at hd;subst hd;exact e he
 |c::c'::l,x,T,H,s,o,h=>by
  have h:(K2 H0 (c'::l) x.2 ((c.put H0 x.1 (T,H)).1,(c.put H0 x.1 (T,H)).2)).2[s]? =some o:=h;rcases Qkp h with⟨d,z,hi,he,ho⟩|⟨hn,h⟩
  ·exact .inl ⟨d,z,.tail _ _ _ _ _ _ hi,he,ho⟩
  ·rcases Qu.put_H h with⟨e,ho⟩|⟨e,h⟩
   ·exact .inl ⟨c,x.1,.head _ _ _ _,e,ho⟩
   ·refine .inr ⟨fun hm=>?_,h⟩;obtain⟨d,hd,he⟩:=ZL.1 hm;rcases ZI.1 hd with rfl|hd
    ·exact e he
    ·exact hn (ZL.2 ⟨d,hd,he⟩)
theorem Qu.Zmf{H0:List Qb}{c:Qu}{x:c.El}{T:TT}{H:List Qb}:(c.put H0 x (T,H)).2.length=H.length:=by cases c<;>simp[Qu.put]
theorem Qi6{H0:List Qb}:∀{l:List Qu} {x:Yo l} {T:TT} {H:List Qb},(K2 H0 l x (T,H)).2.length=H.length
 |[],x,T,H=>rfl
 |[c],x,T,H=>Qu.Zmf
 |c::c'::l,x,T,H=>by show(K2 H0 (c'::l) x.2 ((c.put H0 x.1 (T,H)).1,(c.put H0 x.1 (T,H)).2)).2.length=H.length;rw[Qi6,Qu.Zmf]
theorem Qzr:∀{l:List Nat} {H:List Qb} {s:Nat} {o:Qb},(Qan l H)[s]? =some o->(s∈l∧o=.dead)∨(s∉l∧H[s]? =some o)
 |[],H,s,o,h=>.inr ⟨by simp,h⟩
 |i::l,H,s,o,h=>by
  simp only[Qan]at h;rcases Qzr h with⟨h1,h2⟩|⟨h1,h2⟩
  ·exact .inl ⟨ZD _ h1,h2⟩
  ·rw[ZK]at h2;split at h2
   ·rename_i e;subst e;split at h2
    ·cases h2;exact .inl ⟨ZH,rfl⟩
    ·cases h2
   ·rename_i e;exact .inr ⟨by simp only[ZI,not_or];exact⟨fun h=>e h.symm,h1⟩,h2⟩
theorem Qh9:∀{l:List Nat} {H:List Qb},(Qan l H).length=H.length
 |[],H=>rfl
 |i::l,H=>by simp[Qan,Qh9]
theorem Zc1:∀{D:List Nat} {T:TT} {t:Nat} {y:SV},(T.drop D).get t=some y->y=.any∨(t∉D∧T.get t=some y)
 |[],T,t,y,h=>.inr ⟨by simp,h⟩
 |d::D,T,t,y,h=>by
  simp only[TT.drop]at h;rcases Zc1 h with h|⟨h1,h2⟩
  ·exact .inl h
  ·rcases TT.Kv _ _ _ _ _ h2 with⟨_,rfl⟩|⟨e,h2⟩
   ·exact .inl rfl
   ·exact .inr ⟨by simp[h1,e],h2⟩
theorem Zky{H:List Qb}:∀{l:List (Nat×Lk)} {T:TT} {t:Nat} {y:SV},(Qlj H l T).get t=some y->(∃q∈l,q.1=t∧y=Qep H q.2)∨T.get t=some y
 |[],T,t,y,h=>.inr h
 |q::l,T,t,y,h=>by
  simp only[Qlj]at h;rcases Zky h with⟨q',h1,h2⟩|h
  ·exact .inl ⟨q',ZD _ h1,h2⟩
  ·rcases TT.Kv _ _ _ _ _ h with⟨rfl,rfl⟩|⟨_,h⟩
   ·exact .inl ⟨q,ZH,rfl,rfl⟩
   ·exact .inr h
theorem Qxm{mv:List Nat}{H:List Qb}{s:Nat}{o:Qb}(h:(W7 mv H)[s]? =some o):∃x,H[s]? =some x∧(o=x.forget mv∨(mv=[]∧o=x)):=by
 unfold W7 at h;split at h
 ·exact⟨o,h,.inr ⟨rfl,rfl⟩⟩
 ·simp only[List.getElem?_map,ZC]at h;obtain⟨x,hx,rfl⟩:=h;exact⟨x,hx,.inl rfl⟩
theorem Qg3{mv:List Nat}{H:List Qb}:(W7 mv H).length=H.length:=by unfold W7;split<;>simp
def Qm.H1(O:Qm)(ids mv:List Nat)(b:St)(x:O.El):List Qb:=(K2 [] O.cells x (.nil,Qan ids (W7 mv b.H))).2
theorem Qm.Qha(O:Qm)(D ids mv:List Nat)(b:St)(x:O.El):(O.st D ids mv b x).H=(K2 (O.H1 ids mv b x) O.cells x ((Qbg mv b.T).drop D,Qan ids (W7 mv b.H))).2:=by unfold Qm.st Qm.H1;rfl
theorem Qm.Yr2(O:Qm)(D ids mv:List Nat)(b:St)(x:O.El):(O.st D ids mv b x).T=Qlj (O.H1 ids mv b x) O.owns (K2 (O.H1 ids mv b x) O.cells x ((Qbg mv b.T).drop D,Qan ids (W7 mv b.H))).1:=by unfold Qm.st Qm.H1;rfl
theorem Qm.Qj1(O:Qm)(D ids mv:List Nat)(b:St)(x:O.El):(O.st D ids mv b x).n0=b.H.length∧(O.st D ids mv b x).tch=ids∧(O.st D ids mv b x).fg=mv∧(O.st D ids mv b x).marks=[]∧(O.st D ids mv b x).er=D:=by unfold Qm.st;split;split;exact⟨rfl,rfl,rfl,rfl,rfl⟩
theorem Qbu{B:Nat->Value}{nt:Nat}{O:Qm}{D ids mv:List Nat}{b s':St}{H0:List Qb}{M0 M':Qd}{ρ0 Z':Env}{a0 a':Act}{w0 w':World}{c:Bool}{x:O.El}
  (hB:∀t,t∉D->a0.tmps.getD t undef=B t) (hb:Qnr D ids mv b M0 ρ0 H0 a0 w0) (hm0:Mem M0 ρ0 H0 w0)
  (hg:Good B nt M' Z' s' a' w') (hf:Fr M0 ρ0 H0 w0 M' Z' s'.H w' b.H.length s'.tch s'.fg) (hmv:subset mv ids=true) (hcov:O.V8 ids=true)
  (hr:s'.reads D ids mv b.H.length=true) (hx:O.read b.H.length s'=some (c,x)) (hc:c=true):
  ∃M'' Z'',Good B nt M'' Z'' (O.st D ids mv b x) a' w'∧Fr M0 ρ0 H0 w0 M'' Z'' (O.st D ids mv b x).H w' b.H.length ids mv∧M''=M'.sealing Z' s'.H b.H.length w'∧Z''=Z'.cut b.H.length:=by
 simp only[St.reads,ZA]at hr;unfold Qm.V8 at hcov;simp only[ZA]at hcov;obtain⟨hcov,hcov1,hcov2⟩:=hcov;obtain⟨r1,r2,r3,r4,r5⟩:=hr;have r4:s'.marks=[]:=by simpa using r4
 have r5:=Nat.le_of_ble_eq_true r5;unfold Qm.read at hx;split at hx
 ·rename_i c1 howns;split at hx
  ·rename_i x0 hcells;cases hx;rw[ZA]at hc;obtain⟨e1,e2,e3,e4,e5⟩:=Qm.Qj1 O D ids mv b x0.2;have hL:(O.st D ids mv b x0.2).H.length=b.H.length:=by rw[Qm.Qha,Qi6,Qh9,Qg3]
   have hL1:(O.H1 ids mv b x0.2).length=b.H.length:=by unfold Qm.H1;rw[Qi6,Qh9,Qg3]
   have hmem:=Zhf (c:=x0.1) (x:=x0.2) hcells hc.2;have hle:=Qd.W0 M' Z' s'.H b.H.length w';have hlen:∀s,s∈O.cells.filterMap Qu.id? ->Qqs b.H.length s'.H (O.H1 ids mv b x0.2) (.own s):=fun s hs hsn o sz ho hsz=>by
    have hs1:s<(O.H1 ids mv b x0.2).length:=by rw[hL1];exact hsn
    obtain⟨o1,ho1⟩:∃o1,(O.H1 ids mv b x0.2)[s]? =some o1:=⟨_,ZN hs1⟩;refine⟨o1,ho1,?_⟩;have ho1':=ho1;unfold Qm.H1 at ho1';rcases Qkp ho1' with⟨k,z,hi,hk,rfl⟩|⟨hn,_⟩
    ·obtain⟨o2,q1,_,q3⟩:=Qu.Qz0 (H1:=[]) (hmem k z hi) rfl hk;rw[ho]at q1;cases q1;exact q3 sz hsz
    ·exact absurd hs hn
   have hlk:∀lk:Lk,lk.inn (O.cells.filterMap Qu.id?)=true->Qqs b.H.length s'.H (O.H1 ids mv b x0.2) lk:=fun lk h=>by
    cases lk with
    |stat y=>trivial
    |own s=>exact hlen s (by simpa[Lk.inn]using h)
   have hobj:∀s o,(O.st D ids mv b x0.2).H[s]? =some o->s<b.H.length∧((∃(k:Qu) (z:k.El),U9 O.cells x0.2 k z∧k.id? =some s∧o=k.obj (O.H1 ids mv b x0.2) z)∨o=.dead∨(s∉ids∧∃o0,b.H[s]? =some o0∧(o=o0.forget mv∨(mv=[]∧o=o0)))):=fun s o ho=>by
    have hs:s<b.H.length:=by rw[<-hL];exact(ZG.1 ho).1
    refine⟨hs,?_⟩;rw[Qm.Qha]at ho;rcases Qkp ho with⟨k,z,hi,hk,e⟩|⟨_,ho⟩
    ·exact .inl ⟨k,z,hi,hk,e⟩
    ·rcases Qzr ho with⟨_,e⟩|⟨hn,ho⟩
     ·exact .inr (.inl e)
     ·exact .inr (.inr ⟨hn,Qxm ho⟩)
   have hcut:∀s,s<b.H.length->Z'.cut b.H.length s=Z' s:=fun s hs=>by simp[Env.cut,hs]
   have hstay:∀s,s<b.H.length->s∉mv->Z' s=ρ0 s:=fun s hs hn=>hf.stay s hs fun h=>hn (Qb3 r3 h);have hbut:Env.Qai mv ρ0 (Z'.cut b.H.length):=fun s p hs hp=>by
    have hn:s∉mv:=by simpa using hs
    rcases Nat.lt_or_ge s b.H.length with h|h
    ·rw[hcut s h,hstay s h hn];exact hp
    ·rw[hm0.fresh s (by rw[hb.len];exact h)]at hp;cases hp
   have hsame:∀s o0,s∉ids->b.H[s]? =some o0->o0.live=true->∀p b,ρ0 s=some p->p.has b->w'.heap[b]? =w0.heap[b]? :=fun s o0 hn ho hl p bb hp hbb=>by obtain⟨o',h1,h2⟩:=(hb.objs s o0 hn ho).2 hl;exact((hf.keep s o' ((ZG.1 ho).1) (fun h=>hn (Qb3 r2 h)) h1 h2).2 p hp).2 bb hbb
   have himm:M0.le (M'.sealing Z' s'.H b.H.length w'):=Qd.le_trans hf.imm hle;have hlive:∀(s:Nat) (o:Qb),(O.st D ids mv b x0.2).H[s]? =some o->o.live=true->∃o':Qb,s'.H[s]? =some o'∧o'.live=true:=fun s o ho hl=>by
    obtain⟨hs,⟨k,z,h1,h2,rfl⟩|rfl|⟨hn,o0,h1,h2⟩⟩:=hobj s o ho
    ·obtain⟨o',g1,g2,_⟩:=Qu.Qz0 (H1:=[]) (hmem k z h1) rfl h2;exact⟨o',g1,g2⟩
    ·cases hl
    ·have hl0:o0.live=true:=by
      rcases h2 with rfl|⟨_,rfl⟩
      ·rwa[Zri]at hl
      ·exact hl
     obtain⟨o',g1,g2⟩:=(hb.objs s o0 hn h1).2 hl0;exact(hf.keep s o' hs (fun h=>hn (Qb3 r2 h)) g1 g2).1
   have hmem'':Mem (M'.sealing Z' s'.H b.H.length w') (Z'.cut b.H.length) (O.st D ids mv b x0.2).H w':=by
    refine⟨fun bb o hbb=>?_,fun s o ho=>?_,fun s o p bb ho hl hp hbb=>?_,fun s s1 o o1 p p1 bb ho ho1 hl hl1 hp hp1 hbk hbk'=>?_,fun s hs=>?_,fun s o p bb ho hl hp hbb=>?_⟩
    ·cases e:M' bb with
     |some o'=>rw[hle bb o' e]at hbb;cases hbb;exact hg.mem.imm bb _ e
     |none=>exact(Qd.Kx e hbb).2
    ·obtain⟨hs,⟨k,z,h1,h2,rfl⟩|rfl|⟨hn,o0,h1,h2⟩⟩:=hobj s o ho
     ·refine Qu.Zmc hg.mem (hmem k z h1) rfl h2 hs fun q hq=>hlk q.2 ?_;have:=ZF.1 hcov1 k h1.mem;exact ZF.1 this q hq
     ·trivial
     ·have h0:=(hb.objs s o0 hn h1).1;have hnm:s∉mv:=fun h=>hn (Qb3 hmv h);by_cases hl:o0.live=true
      ·have h3:=h0.forget (d:=mv) himm hbut ((hcut s hs).trans (hstay s hs hnm)) (fun p bb hp hbb=>hsame s o0 hn h1 hl p bb hp hbb);rw[Qb.Qct]at h3;rcases h2 with rfl|⟨rfl,rfl⟩
       ·exact h3
       ·rwa[Qb.Uo]at h3
      ·have e0:=Qbv hl;subst e0;rcases h2 with rfl|⟨_,rfl⟩<;>trivial
    ·obtain⟨o',h1,h2⟩:=hlive s o ho hl;have hs:=(hobj s o ho).1;rw[hcut s hs]at hp;cases e:M'.sealing Z' s'.H b.H.length w' bb with
     |none=>rfl
     |some ob=>
      obtain⟨⟨s2,o2,p2,q1,q2,q3,q4,q5⟩,_⟩:=Qd.Kx (hg.mem.seps s o' p bb h1 h2 hp hbb) e;have hl2:o2.live=true:=by cases o2<;>simp_all [Qb.Kw,Qb.live]
      have:=hg.mem.diss s s2 o' o2 p p2 bb h1 q2 h2 hl2 hp q4 hbb (.inl q5);omega
    ·obtain⟨o',h1,h2⟩:=hlive s o ho hl;obtain⟨o1',k1,k2⟩:=hlive s1 o1 ho1 hl1;rw[hcut s (hobj s o ho).1]at hp;rw[hcut s1 (hobj s1 o1 ho1).1]at hp1;exact hg.mem.diss s s1 o' o1' p p1 bb h1 k1 h2 k2 hp hp1 hbk hbk'
    ·rw[hL]at hs;simp[Env.cut,Nat.not_lt.2 hs]
    ·obtain⟨o',h1,h2⟩:=hlive s o ho hl;rw[hcut s (hobj s o ho).1]at hp;exact hg.mem.lts s o' p bb h1 h2 hp hbb
   refine⟨M'.sealing Z' s'.H b.H.length w',Z'.cut b.H.length,⟨fun t y hy=>?_,hg.sz,hmem'',?_,fun m hm=>?_,by rw[e1,hL];exact Nat.le_refl _,fun t ht=>?_⟩,?_,rfl,rfl⟩
   ·rw[Qm.Yr2]at hy;rcases Zky hy with⟨q,hq,rfl,rfl⟩|hy
    ·obtain⟨x,g1,g2⟩:=Zgf howns hc.1 q hq;exact Zlc hg.mem hle g2 (hlk q.2 (ZF.1 hcov q hq)) (hg.tm q.1 x g1)
    ·rcases Zhi hy with⟨a,z,hi,rfl⟩|hy
     ·have hz:=hmem _ _ hi;have hz:(match s'.T.get t with
       |some x=>rdA s'.H b.H.length a x
       |none=>none)=some (true,z):=hz
      split at hz
      ·rename_i x hx;exact Qu5 hg.mem hz rfl (hg.tm t x hx)
      ·cases hz
     ·rcases Zc1 hy with rfl|⟨hn,hy⟩
      ·exact .any _
      ·obtain⟨y0,hy0,hyy⟩:=Quf hy;have hsl:=hb.slots t y0 hn hy0;have ht':a'.tmps.getD t undef=a0.tmps.getD t undef:=by rw[hg.fix t fun h=>hn (Qb3 r1 h),hB t hn]
       rw[ht'];have h3:=hsl.forget (d:=mv) himm hbut;rw[SV.Qct]at h3;rcases hyy with rfl|⟨rfl,rfl⟩
       ·exact h3
       ·rwa[SV.Uo]at h3
   ·rw[e4];have:=hg.df;rw[r4]at this;exact⟨this.1,fun i d s _ h=>by simp at h⟩
   ·rw[e4]at hm;cases hm
   ·rw[e5]at ht;exact hg.fix t fun h=>ht (Qb3 r1 h)
   ·refine⟨himm,fun bb o h0 h1=>?_,fun bb hbb=>?_,hf.same,hf.grow,fun s o hs hx ho hl=>?_,fun s hs hx=>?_,hf.io⟩
    ·cases e:M' bb with
     |some o'=>exact hf.new bb o' h0 e
     |none=>obtain⟨⟨s2,o2,p2,q1,q2,q3,q4,q5⟩,_⟩:=Qd.Kx e h1;exact hf.own bb ⟨s2,o2,p2,q2,by cases o2<;>simp_all [Qb.Kw,Qb.live],q4,.inl q5⟩
    ·obtain⟨s,o,p,h1,h2,h3,h4⟩:=hbb;obtain⟨o',k1,k2⟩:=hlive s o h1 h2;rw[hcut s (hobj s o h1).1]at h3;exact hf.own bb ⟨s,o',p,k1,k2,h3,h4⟩
    ·have hs2:s<(O.st D ids mv b x0.2).H.length:=by rw[hL];exact hs
     have hns:s∉s'.tch:=fun h=>hx (Qb3 r2 h);obtain⟨_,k3⟩:=hf.keep s o hs hns ho hl;refine⟨?_,fun p hp=>?_⟩
     ·obtain⟨o0,g1,g2⟩:=hb.back s o hx ho hl;have hns2:s∉O.cells.filterMap Qu.id? :=fun h=>hx (Qb3 hcov2 h);obtain⟨on,hst⟩:∃on,(O.st D ids mv b x0.2).H[s]? =some on:=⟨_,ZN hs2⟩;refine⟨on,hst,?_⟩;have hst2:=hst;rw[Qm.Qha]at hst2;rcases Qkp hst2 with⟨k',z',hi,hk,_⟩|⟨_,hh⟩
      ·exact absurd (Yqt hi hk) hns2
      ·rcases Qzr hh with⟨h1,_⟩|⟨_,h2⟩
       ·exact absurd h1 hx
       ·obtain⟨o2,n1,n2⟩:=Qxm h2;rw[g1]at n1;cases n1;rcases n2 with e|⟨_,e⟩
        ·rw[e,Qb1];exact g2
        ·rw[e];exact g2
     ·obtain⟨k4,k5⟩:=k3 p hp;exact⟨by rw[hcut s hs];exact k4,k5⟩
    ·rw[hcut s hs];exact hstay s hs hx
  ·cases hx
 ·cases hx
end Go.Sx
end
section
namespace Go.Sx
open Go
def gd{X:Type}:Bool->Option X->Option X
 |true,x=>x
 |false,_=>none
theorem Yy{X:Type}{c:Bool}{x:Option X}{y:X}(h:gd c x=some y):c=true∧x=some y:=by
 cases c with
 |true=>exact⟨rfl,h⟩
 |false=>cases h
def both{X:Type}(eq:X->X->Bool)(x y:Option X):Option X:=match x with
 |none=>none
 |some a=>match y with
  |none=>none
  |some b=>match eq a b with
   |true=>some a
   |false=>none
theorem Zfj{X:Type}{eq:X->X->Bool}(he:Y6 eq){x y:Option X}{v:X}(h:both eq x y=some v):x=some v∧y=some v:=by
 unfold both at h;split at h
 ·cases h
 ·split at h
  ·cases h
  ·split at h
   ·rename_i e;cases h;rw[he _ _ e];exact⟨rfl,rfl⟩
   ·cases h
abbrev KO(X:Type):=SV->List Qb->List Nat->List Nat->Option X
abbrev KX(X:Type):=Exit->St->Option X
section
variable {X:Type}
def Qp.Kt(eq:X->X->Bool)(kok:SV->Option X)(k:KO X):Qp->Option X
 |.fail=>none
 |.ok x=>kok x
 |.eff x H' t g=>k x H' t g
 |.need c r=>match c with
  |true=>r.Kt eq kok k
  |false=>none
 |.split c a b=>match c with
  |true=>a.Kt eq kok k
  |false=>b.Kt eq kok k
 |.both a b=>Sx.both eq (a.Kt eq kok k) (b.Kt eq kok k)
theorem Qp.Qen{eq:X->X->Bool}(he:Y6 eq){H:List Qb}{kok:SV->Option X}{k:KO X}{K:Qy}{y:X}(h1:∀x,kok x=some y->K x H [] [])(h2:∀x H' t g,k x H' t g=some y->K x H' t g):∀{r:Qp},r.Kt eq kok k=some y->r.holds H K
 |.fail,h=>by simp[Qp.Kt]at h
 |.ok x,h=>h1 x h
 |.eff x H' t g,h=>h2 x H' t g h
 |.need c r,h=>by
  simp only[Qp.Kt]at h;cases c with
  |true=>exact⟨rfl,Qp.Qen he h1 h2 h⟩
  |false=>cases h
 |.split c a b,h=>by
  simp only[Qp.Kt]at h;cases c with
  |true=>exact⟨fun _=>Qp.Qen he h1 h2 h,fun h=>by cases h⟩
  |false=>exact⟨fun h=>(by cases h),fun _=>Qp.Qen he h1 h2 h⟩
 |.both a b,h=>by simp only[Qp.Kt]at h;obtain⟨q1,q2⟩:=Zfj he h;exact⟨Qp.Qen he h1 h2 q1,Qp.Qen he h1 h2 q2⟩
def Qgz(ops:Array Oper)(o:Oper)(s:St)(run skip:St->Option X):Option X:=
 match o.guard with
 |none=>run s
 |some (j,want)=>match Qho ops j with
  |none=>none
  |some d=>match s.T.get d with
   |some (.pv (.lit (.bool b)))=>match want with
    |true=>match b with
     |true=>run {s with T:=s.T.set d (.lit (.bool true))}
     |false=>skip {s with T:=s.T.set d (.lit (.bool false))}
    |false=>match b with
     |true=>skip {s with T:=s.T.set d (.lit (.bool true))}
     |false=>run {s with T:=s.T.set d (.lit (.bool false))}
   |some (.pv (.lit (.tuple _)))=>skip s
   |_=>none
theorem Qtw{ops:Array Oper}{o:Oper}{s:St}{run skip:St->Option X}{run' skip':St->Prop}{y:X}(h:Qgz ops o s run skip=some y)(hr:∀s,run s=some y->run' s)(hs:∀s,skip s=some y->skip' s):Qci ops o s run' skip':=by
 unfold Qgz at h;unfold Qci;split at h
 ·rename_i e;simp only[e];exact hr _ h
 ·rename_i j want e;simp only[e];split at h
  ·cases h
  ·rename_i d e2;simp only[e2];split at h
   ·rename_i b e3;simp only[e3];cases want<;>cases b<;>simp only[Bool.not_true,Bool.not_false]at h⊢
    ·exact⟨fun _=>hr _ h,fun h=>by cases h⟩
    ·exact⟨fun h=>(by cases h),fun _=>hs _ h⟩
    ·exact⟨fun h=>(by cases h),fun _=>hs _ h⟩
    ·exact⟨fun _=>hr _ h,fun h=>by cases h⟩
   ·rename_i e3;simp only[e3];exact hs _ h
   ·cases h
def Qp.low:Qp->Qp
 |.split c _ b=>.need (!c) b.low
 |.need c r=>.need c r.low
 |.both a b=>.both a.low b.low
 |r=>r
theorem Qp.Qnl{H:List Qb}{K:Qy}:∀{r:Qp},r.low.holds H K->r.holds H K
 |.fail,h=>h
 |.ok x,h=>h
 |.eff x H' t g,h=>h
 |.need c r,h=>⟨h.1,Qp.Qnl h.2⟩
 |.split c a b,h=>⟨fun hc=>(by have:=h.1;rw[hc]at this;cases this),fun _=>Qp.Qnl h.2⟩
 |.both a b,h=>⟨Qp.Qnl h.1,Qp.Qnl h.2⟩
def Qwk:Bool->Qp->Qp
 |true,r=>r.low
 |false,r=>r
theorem Zgq{H:List Qb}{K:Qy}{b:Bool}{r:Qp}(h:(Qwk b r).holds H K):r.holds H K:=by
 cases b with
 |true=>exact Qp.Qnl h
 |false=>exact h
abbrev K5(X:Type):=Bool->Nat->List SV->List Qb->KO X->Option X
structure K5.Ok (cx:Cx) (cb:K5 X):Prop where
 ok:∀g args H k y,cb false g args H k=some y->(∃fn,cx.fns.lookup g=some fn)∧Xt cx.P g args H fun x H' t f=>k x H' t f=some y
 rd:∀s args H k y,cb true s args H k=some y->Qdv cx.P s args H fun x H' t f=>k x H' t f=some y
def opO(eq:X->X->Bool)(cx:Cx)(cb:K5 X)(ev:Operand->SV)(H:List Qb)(o:Oper)(kok:SV->Option X)(k:KO X):Option X:=
 match Qlr o.op with
 |some c=>match Ql3 ev c with
  |some (s,args)=>cb true s args H k
  |none=>match target ev c with
   |none=>none
   |some (g,args)=>cb false g args H k
 |none=>(Qwk cx.low (sop cx.P cx.tab H ev o)).Kt eq kok k
theorem Zfd{eq:X->X->Bool}(he:Y6 eq){cx:Cx}{cb:K5 X}(hcb:cb.Ok cx){ev:Operand->SV}{H:List Qb}{o:Oper}{kok:SV->Option X}{k:KO X}{K:Qy}{y:X}(h1:∀x,kok x=some y->K x H [] [])(h2:∀x H' t g,k x H' t g=some y->K x H' t g)
  (h:opO eq cx cb ev H o kok k=some y):opP cx ev H o K:=by
 unfold opO at h;unfold opP;cases hc:Qlr o.op with
 |none=>simp only[hc]at h⊢;exact Zgq (Qp.Qen he h1 h2 h)
 |some c=>
  simp only[hc]at h⊢;cases hy:Ql3 ev c with
  |some q=>obtain⟨s,args⟩:=q;simp only[hy]at h⊢;exact(hcb.rd s args H k y h).mono h2
  |none=>
   simp only[hy]at h⊢;cases ht:target ev c with
   |none=>simp only[ht]at h;cases h
   |some q=>obtain⟨g,args⟩:=q;simp only[ht]at h⊢;obtain⟨⟨fn,hf⟩,h3⟩:=hcb.ok g args H k y h;simp only[hf];exact h3.mono h2
def Qf7(eq:X->X->Bool)(cx:Cx)(cb:K5 X)(nt:Nat)(ops:Array Oper):List Oper->St->(St->Option X)->Option X
 |[],s,k=>k s
 | o :: rest,s,k=>Qgz ops o s
   (fun s'=>gd (Vy o.op&&Wk nt o.dst) (opO eq cx cb s'.ev s'.H o (fun x=>Qf7 eq cx cb nt ops rest (s'.put o.dst x) k) fun x H t f=>gd (Qe9 s' nt o.dst H f) (Qf7 eq cx cb nt ops rest (s'.step o.dst x H t f) k)))
   (fun s'=>gd (Wk nt o.dst) (Qf7 eq cx cb nt ops rest (s'.put o.dst (.lit undef)) k))
theorem Qna{eq:X->X->Bool}(he:Y6 eq){cx:Cx}{cb:K5 X}(hcb:cb.Ok cx){nt:Nat}{ops:Array Oper}{y:X}:∀(l:List Oper) (s:St) (k:St->Option X),Qf7 eq cx cb nt ops l s k=some y->Qhl cx nt ops l s fun s'=>k s'=some y
 |[],s,k,h=>h
 |o::rest,s,k,h=>by
  unfold Qf7 at h;unfold Qhl;refine Qtw h (fun s' h=>?_) (fun s' h=>?_)
  ·obtain⟨h0,h⟩:=Yy h;rw[ZA]at h0;refine⟨h0.1,Zfd he hcb (fun x hx=>.inl ⟨h0.2,rfl,rfl,rfl,Qna he hcb rest _ k hx⟩) (fun x H t f h=>?_) h⟩;obtain⟨h1,h⟩:=Yy h;exact .inr ⟨h1,Qna he hcb rest _ k h⟩
  ·obtain⟨h0,h⟩:=Yy h;exact⟨h0,Qna he hcb rest _ k h⟩
def Qye:Qfv->Bool
 |.stop=>true
 |_=>false
def J6(eq:X->X->Bool)(cx:Cx)(cb:K5 X)(nt:Nat)(ops:Array Oper):Qfv->List (Nat×List Nat)->St->(St->Option X)->Option X
 |.done,pend,s,k=>k s
 |.bad,pend,s,k=>none
 |.stop,pend,s,k=>none
 |.take i o p,pend,s,k=>gd (Wk nt o.dst) (Qgz ops o s
   (fun s'=>gd ((Uz s'.ev o).all (Qi2 s'.H) && hdyn (Uz s'.ev o) s'.ev o)
    ((Qwk cx.low (sop cx.P cx.tab s'.H s'.ev o)).Kt eq (fun x=>J6 eq cx cb nt ops p (Qij i (Uz s'.ev o) pend) (s'.put o.dst x) k) fun x _ _ _=>J6 eq cx cb nt ops p (Qij i (Uz s'.ev o) pend) (s'.put o.dst x) k))
   (fun s'=>J6 eq cx cb nt ops p pend (s'.put o.dst (.lit undef)) k))
 |.alt o p rest,pend,s,k=>
  match Qye rest with
  |true=>Qgz ops o s
   (fun s'=>gd (Vy o.op&&Wk nt o.dst) (opO eq cx cb s'.ev s'.H o (fun x=>J6 eq cx cb nt ops p (Vg o pend) (s'.put o.dst x) k) fun x H t f=>gd (Qe9 s' nt o.dst H f&&keeps o pend t f) (J6 eq cx cb nt ops p (Vg o pend) (s'.step o.dst x H t f) k)))
   (fun s'=>gd (Wk nt o.dst) (J6 eq cx cb nt ops p (Vg o pend) (s'.put o.dst (.lit undef)) k))
  |false=>both eq (Qgz ops o s
   (fun s'=>gd (Vy o.op&&Wk nt o.dst) (opO eq cx cb s'.ev s'.H o (fun x=>J6 eq cx cb nt ops p (Vg o pend) (s'.put o.dst x) k) fun x H t f=>gd (Qe9 s' nt o.dst H f&&keeps o pend t f) (J6 eq cx cb nt ops p (Vg o pend) (s'.step o.dst x H t f) k)))
   (fun s'=>gd (Wk nt o.dst) (J6 eq cx cb nt ops p (Vg o pend) (s'.put o.dst (.lit undef)) k))) (J6 eq cx cb nt ops rest pend s k)
theorem Qeb{eq:X->X->Bool}(he:Y6 eq){cx:Cx}{cb:K5 X}(hcb:cb.Ok cx){nt:Nat}{hl:Bool}{ops:Array Oper}{k:St->Option X}{y:X}:
  ∀(fuel:Nat) (listed:Array Bool) (R:List (Nat×List Nat)) (s:St),J6 eq cx cb nt ops (Uj hl ops fuel listed) R s k=some y->Vw cx nt hl ops fuel listed R s fun s'=>k s'=some y
 |0,listed,R,s,h=>by
  unfold Uj at h;unfold Vw;split at h
  ·rename_i e;exact⟨e,h⟩
  ·cases h
 |n+1,listed,R,s,h=>by
  unfold Uj at h;unfold Vw;cases hp:Qx4 hl ops listed with
  |some i=>
   simp only[hp]at h⊢;cases ho:ops[i]? with
   |none=>simp only[ho]at h;cases h
   |some o=>simp only[ho,J6]at h⊢;obtain⟨h0,h⟩:=Yy h;refine⟨h0,Qtw h (fun s' h=>?_) (fun s' h=>Qeb he hcb n _ R _ h)⟩;obtain⟨h1,h⟩:=Yy h;exact⟨h1,Zgq (Qp.Qen he (fun x h=>Qeb he hcb n _ _ _ h) (fun x _ _ _ h=>Qeb he hcb n _ _ _ h) h)⟩
  |none=>
   simp only[hp]at h⊢;cases hr:Region.ready .any ops listed with
   |nil=>simp only[hr]at h;exact h
   |cons r rs=>
    simp only[hr]at h;have one:∀(i:Nat) (o:Oper),Qgz ops o s
      (fun s'=>gd (Vy o.op&&Wk nt o.dst) (opO eq cx cb s'.ev s'.H o (fun x=>J6 eq cx cb nt ops (Uj hl ops n (listed.setIfInBounds i true)) (Vg o R) (s'.put o.dst x) k) fun x H t f=>gd (Qe9 s' nt o.dst H f&&keeps o R t f) (J6 eq cx cb nt ops (Uj hl ops n (listed.setIfInBounds i true)) (Vg o R) (s'.step o.dst x H t f) k)))
      (fun s'=>gd (Wk nt o.dst) (J6 eq cx cb nt ops (Uj hl ops n (listed.setIfInBounds i true)) (Vg o R) (s'.put o.dst (.lit undef)) k))=some y->
      Qci ops o s
       (fun s'=>Vy o.op=true∧opP cx s'.ev s'.H o fun x H tch fg=>(keeps o R tch fg=true∧s'.adv nt o.dst (fun s''=>Vw cx nt hl ops n (listed.setIfInBounds i true) (Vg o R) s'' fun s'=>k s'=some y) x H tch fg))
       (fun s'=>Wk nt o.dst=true∧Vw cx nt hl ops n (listed.setIfInBounds i true) (Vg o R) (s'.put o.dst (.lit undef)) fun s'=>k s'=some y):=by
     intro i o h;refine Qtw h (fun s' h=>?_) (fun s' h=>?_)
     ·obtain⟨h0,h⟩:=Yy h;rw[ZA]at h0;refine⟨h0.1,Zfd he hcb (fun x hx=>⟨Zyu o R,.inl ⟨h0.2,rfl,rfl,rfl,Qeb he hcb n _ _ _ hx⟩⟩) (fun x H t f h=>?_) h⟩;obtain⟨h1,h⟩:=Yy h;rw[ZA]at h1;exact⟨h1.2,.inr ⟨h1.1,Qeb he hcb n _ _ _ h⟩⟩
     ·obtain⟨h0,h⟩:=Yy h;exact⟨h0,Qeb he hcb n _ _ _ h⟩
    have all:∀(l:List Nat),l≠[]->J6 eq cx cb nt ops (Qgc ops (fun i=>Uj hl ops n (listed.setIfInBounds i true)) l) R s k=some y->∀i∈l,match ops[i]? with
     |none=>False
     | some o=>Qci ops o s
       (fun s'=>Vy o.op=true∧opP cx s'.ev s'.H o fun x H tch fg=>(keeps o R tch fg=true∧s'.adv nt o.dst (fun s''=>Vw cx nt hl ops n (listed.setIfInBounds i true) (Vg o R) s'' fun s'=>k s'=some y) x H tch fg))
       (fun s'=>Wk nt o.dst=true∧Vw cx nt hl ops n (listed.setIfInBounds i true) (Vg o R) (s'.put o.dst (.lit undef)) fun s'=>k s'=some y):=by
     intro l;induction l with
     |nil=>intro h;exact absurd rfl h
     |cons j l ih=>
      intro _ h i hi;unfold Qgc at h;cases ho:ops[j]? with
      |none=>simp only[ho]at h;cases h
      |some o=>
       simp only[ho,J6]at h;cases l with
       |nil=>
        simp only[Qgc,Qye]at h;rcases ZI.1 hi with rfl|hi
        ·simp only[ho];exact one i o h
        ·cases hi
       |cons j2 l2=>
        have hst:Qye (Qgc ops (fun i=>Uj hl ops n (listed.setIfInBounds i true)) (j2::l2))=false:=by unfold Qgc;cases ops[j2]? <;>rfl
        simp only[hst]at h;obtain⟨h1,h2⟩:=Zfj he h;rcases ZI.1 hi with rfl|hi
        ·simp only[ho];exact one i o h1
        ·exact ih (by simp) h2 i hi
    exact all _ (by simp) h
end
end Go.Sx
end
namespace Go.Sx
open Go
def Qhf(a b:Nat):Bool:=decide (a=b)
theorem Quk:Y6 Qhf:=fun a b h=>of_decide_eq_true h
def Jd.eqv:(l:PL)->Jd l->Jd l->Bool
 |[]=>Qie
 |[p]=>p.2.eqv
 |p::p'::l=>Vi p.2.eqv (Jd.eqv (p'::l))
theorem Jd.eqv_ok:∀(l:PL),Y6 (Jd.eqv l)
 |[]=>fun a b h=>rfl
 |[p]=>Qe.eqv_ok p.2
 |p::p'::l=>Qez (Qe.eqv_ok p.2) (Jd.eqv_ok (p'::l))
def Qu.eqv:(c:Qu)->c.El->c.El->Bool
 |.slot _ a=>a.eqv
 |.vec _ _ row=>Wr (Ql.eqv row)
 |.one _ _ row=>Ql.eqv row
 |.mix _ _ _ dat _=>Jd.eqv dat
 |.map _ k v=>Wr (Vi k.eqv v.eqv)
 |.iter _=>Vi Qc Qhf
 |.over _ _=>Qie
 |.nest _ _ _ row=>Wr (Wr (Ql.eqv row))
 |.fix _ _ _=>Qie
 |.mit _ _=>Vi Qhf (Wr Qhf)
theorem Qu.eqv_ok:∀(c:Qu),Y6 c.eqv
 |.slot _ a=>Qe.eqv_ok a
 |.vec _ _ row=>Qdg (Ql.eqv_ok row)
 |.one _ _ row=>Ql.eqv_ok row
 |.mix _ _ _ dat _=>Jd.eqv_ok dat
 |.map _ k v=>Qdg (Qez (Qe.eqv_ok k) (Qe.eqv_ok v))
 |.iter _=>Qez Qmy Quk
 |.over _ _=>fun a b h=>rfl
 |.nest _ _ _ row=>Qdg (Qdg (Ql.eqv_ok row))
 |.fix _ _ _=>fun a b h=>rfl
 |.mit _ _=>Qez Quk (Qdg Quk)
def Yo.eqv:(l:List Qu)->Yo l->Yo l->Bool
 |[]=>Qie
 |[c]=>c.eqv
 |c::c'::l=>Vi c.eqv (Yo.eqv (c'::l))
theorem Yo.eqv_ok:∀(l:List Qu),Y6 (Yo.eqv l)
 |[]=>fun a b h=>rfl
 |[c]=>Qu.eqv_ok c
 |c::c'::l=>Qez (Qu.eqv_ok c) (Yo.eqv_ok (c'::l))
abbrev Xv:=List (Exit×Qm)
def Z8:Xv->Type
 |[]=>Empty
 |[a]=>a.2.El
 |a::a'::l=>a.2.El ⊕ Z8 (a'::l)
def Z8.eqv:(l:Xv)->Z8 l->Z8 l->Bool
 |[]=>fun _ _=>true
 |[a]=>Yo.eqv a.2.cells
 |a::a'::l=>Qig (Yo.eqv a.2.cells) (Z8.eqv (a'::l))
theorem Z8.eqv_ok:∀(l:Xv),Y6 (Z8.eqv l)
 |[]=>fun a b h=>by cases a
 |[a]=>Yo.eqv_ok _
 |a::a'::l=>Qr5 (Yo.eqv_ok _) (Z8.eqv_ok (a'::l))
def Qqf:Exit->Exit->Bool
 |.normal,.normal=>true
 |.ret,.ret=>true
 |.exit a,.exit b=>ZB a b
 |_,_=>false
theorem Zib{a b:Exit}(h:Qqf a b=true):a=b:=by unfold Qqf at h;split at h<;>first|rfl|(rw[C h];done)|cases h
structure Xh where
 D:List Nat
 ids:List Nat
 mv:List Nat
def Xh.of(f:Xh)(O:Qm):List Nat:=O.Qz3++f.ids
def Qf8(O:Qm)(D ids mv:List Nat)(n:Nat)(s:St):Option O.El:=gd (s.reads D ids mv n) (match O.read n s with
 |some (c,x)=>gd c (some x)
 |none=>none)
def Km(O:Qm)(f:Xh)(n:Nat)(s:St):Option O.El:=Qf8 O f.D (f.of O) f.mv n s
theorem Qwf{O:Qm}{D ids mv:List Nat}{n:Nat}{s:St}{x:O.El}(h:Qf8 O D ids mv n s=some x):s.reads D ids mv n=true∧∃c,c=true∧O.read n s=some (c,x):=by
 obtain⟨h1,h2⟩:=Yy h;refine⟨h1,?_⟩;split at h2
 ·rename_i c y e;obtain⟨h3,h4⟩:=Yy h2;cases h4;exact⟨c,h3,e⟩
 ·cases h2
theorem Qer{O:Qm}{f:Xh}{n:Nat}{s:St}{x:O.El}(h:Km O f n s=some x):s.reads f.D (f.of O) f.mv n=true∧∃c,c=true∧O.read n s=some (c,x):=Qwf h
def Uc(f:Xh)(n:Nat):(l:Xv)->Exit->St->Option (Z8 l)
 |[],_,_=>none
 |[a],e,s=>match Qqf a.1 e with
  |true=>Km a.2 f n s
  |false=>none
 |a::a'::l,e,s=>match Qqf a.1 e with
  |true=>match Km a.2 f n s with
   |some x=>some (.inl x)
   |none=>none
  |false=>match Uc f n (a'::l) e s with
   |some x=>some (.inr x)
   |none=>none
def Jr(f:Xh)(b:St):(l:Xv)->Z8 l->Exit×St
 |[],x=>Empty.elim x
 |[a],x=>(a.1,a.2.st f.D (f.of a.2) f.mv b x)
 |a::a'::l,.inl x=>(a.1,a.2.st f.D (f.of a.2) f.mv b x)
 |a::a'::l,.inr x=>Jr f b (a'::l) x
def Qkq{A:Type}(f:Xh)(b:St):(l:Xv)->Z8 l->(Exit->St->A)->A
 |[],x,_=>Empty.elim x
 |[a],x,k=>k a.1 (a.2.st f.D (f.of a.2) f.mv b x)
 |a::a'::l,x,k=>match x with
  |.inl x=>k a.1 (a.2.st f.D (f.of a.2) f.mv b x)
  |.inr x=>Qkq f b (a'::l) x k
theorem Qlo{A:Type}{f:Xh}{b:St}:∀{l:Xv} (x:Z8 l) (k:Exit->St->A),Qkq f b l x k=k (Jr f b l x).1 (Jr f b l x).2
 |[],x,_=>Empty.elim x
 |[a],x,k=>rfl
 |a::a'::l,.inl x,k=>rfl
 |a::a'::l,.inr x,k=>Qlo (l:=a'::l) x k
def Xh.ok(f:Xh):Bool:=subset f.mv f.ids
theorem Qfs{f:Xh}{O:Qm}(h:f.ok=true):subset f.mv (f.of O)=true:=by unfold Xh.ok subset at h;unfold subset Xh.of;rw[ZF]at h⊢;intro x hx;have:=h x hx;simp only[List.contains_iff_mem,List.mem_append]at this⊢;exact .inr this
def Qaz(f:Xh)(l:Xv):Bool:=l.all fun a=>a.2.V8 (f.of a.2)
theorem Qn3{f:Xh}{n:Nat}{b:St}:∀{l:Xv} {e:Exit} {s:St} {x:Z8 l},Qaz f l=true->Uc f n l e s=some x->
  ∃(O:Qm) (z:O.El),O.V8 (f.of O)=true∧Km O f n s=some z∧Jr f b l x=(e,O.st f.D (f.of O) f.mv b z)
 |[],e,s,x,hok,h=>by cases h
 |[a],e,s,x,hok,h=>by
  simp only[Uc]at h;split at h
  ·rename_i he;refine⟨a.2,x,by simpa[Qaz]using hok,h,?_⟩;simp only[Jr,Zib he]
  ·cases h
 |a::a'::l,e,s,x,hok,h=>by
  have hok':a.2.V8 (f.of a.2)=true∧Qaz f (a'::l)=true:=by simp only[Qaz,List.all_cons,ZA]at hok⊢;exact hok
  simp only[Uc]at h;split at h
  ·rename_i he;split at h
   ·rename_i z hz;cases h;exact⟨a.2,z,hok'.1,hz,by simp only[Jr,Zib he]⟩
   ·cases h
  ·split at h
   ·rename_i z hz;cases h;obtain⟨O,w,h1,h2,h3⟩:=Qn3 (b:=b) hok'.2 hz;exact⟨O,w,h1,h2,h3⟩
   ·cases h
def St.sub(s:St):St:={T:=s.T,H:=s.H,n0:=s.H.length,tch:=[],fg:=[],marks:=[],er:=[]}
def St.outer(s s1:St):St:={T:=s1.T,H:=s1.H,n0:=s.n0,tch:=Xq s.n0 s1.tch s.tch,fg:=Xq s.n0 s1.fg s.fg,marks:=[],er:=s1.er++s.er}
def Qgh(a:Act):Nat->Value:=fun t=>a.tmps.getD t undef
theorem Qxt{B:Nat->Value}{nt:Nat}{M:Qd}{Z:Env}{s:St}{a:Act}{w:World}(hg:Good B nt M Z s a w)(hm:s.marks=[]):Good (Qgh a) nt M Z s.sub a w:=
 ⟨hg.tm,hg.sz,hg.mem,(by have:=hg.df;rw[hm]at this;exact this),(fun m h=>by cases h),Nat.le_refl _,fun t _=>rfl⟩
theorem Qwo{B:Nat->Value}{nt:Nat}{M:Qd}{Z:Env}{s:St}{a:Act}{w:World}(hg:Good B nt M Z s a w)(D ids mv:List Nat):Qnr D ids mv s M Z s.H a w:=
 ⟨rfl,fun t y _ hy=>(hg.tm t y hy).forget M.le_refl (fun _ _ _ h=>h),fun i o _ ho=>⟨(hg.mem.own i o ho).forget M.le_refl (fun _ _ _ h=>h) rfl (fun _ _ _ _=>rfl),fun hl=>⟨o,ho,hl⟩⟩,fun i o _ ho hl=>⟨o,ho,hl⟩⟩
theorem Qt7{B:Nat->Value}{nt:Nat}{M M':Qd}{Z Z':Env}{s s1:St}{a a':Act}{w w':World}{ids mv:List Nat}(hg:Good B nt M Z s a w)(hm:s.marks=[])(h1:Good (Qgh a) nt M' Z' s1 a' w')
  (hf:Fr M Z s.H w M' Z' s1.H w' s.H.length ids mv) (hn:s1.n0=s.H.length) (ht:s1.tch=ids) (hv:s1.fg=mv) (hk:s1.marks=[]):
  Good B nt M' Z' (s.outer s1) a' w'∧Y2 M Z s w M' Z' (s.outer s1) w':=by
 refine⟨⟨h1.tm,h1.sz,h1.mem,by have:=h1.df;rw[hk]at this;exact this,fun m h=>by(cases h),?_,fun t ht=>?_⟩,?_,rfl,fun x hx=>Qf1 hx,fun x hx=>Qf1 hx⟩
 ·show s.n0<=s1.H.length;have:=h1.nle;rw[hn]at this;exact Nat.le_trans hg.nle this
 ·have ht':t∉s1.er∧t∉s.er:=by have:t∉s1.er++s.er:=ht;simpa using this
  rw[h1.fix t ht'.1];exact hg.fix t ht'.2
 ·exact hf.weaken hg.nle (fun x hx h=>Qf9 hx (by rw[ht];exact h)) (fun x hx h=>Qf9 hx (by rw[hv];exact h))
theorem Yfo{R:Option Nat}{P:Program}{nt:Nat}{c:Code}{Q:Exit->St->Prop}{s:St}{f:Xh}{l:Xv}{x:Z8 l}(hm:s.marks=[])(hf:f.ok=true)(hl:Qaz f l=true)
  (h:Zl R P nt c (fun e s'=>Uc f s.H.length l e s'=some x) s.sub) (hq:Q (Jr f s l x).1 (s.outer (Jr f s l x).2)):Zl R P nt c Q s:=by
 intro B M Z a w hg;refine wpIn_mono (h (Qgh a) M Z a w (Qxt hg hm)) ?_
 rintro e a' w' ⟨M',Z',s',hr,g,go⟩
 obtain⟨O,z,h1,h2,h3⟩:=Qn3 (b:=s) hl hr;obtain⟨r1,c,hc,r2⟩:=Qer h2;obtain⟨M'',Z'',g1,g2,_⟩:=Qbu (b:=s) (H0:=s.H) (M0:=M) (ρ0:=Z) (a0:=a) (w0:=w) (fun _ _=>rfl) (Qwo hg _ _ _) hg.mem g go.fr (Qfs hf) h1 r1 r2 hc;obtain⟨e1,e2,e3,e4,e5⟩:=Qm.Qj1 O f.D (f.of O) f.mv s z;obtain⟨k1,k2⟩:=Qt7 hg hm g1 g2 e1 e2 e3 e4;rw[h3]at hq;exact⟨M'',Z'',_,hq,k1,k2⟩
def Q4{U β:Type}(step:U->Option (U ⊕ β)):Nat->U->Option β
 |0,_=>none
 |n+1,x=>match step x with
  |none=>none
  |some (.inl y)=>Q4 step n y
  |some (.inr b)=>some b
def Qk3(f:Xh)(n:Nat)(O:Qm)(l:Xv)(e:Exit)(s:St):Option (O.El ⊕ Z8 l):=match e with
 |.normal=>match Km O f n s with
  |some x=>some (.inl x)
  |none=>none
 |e=>match Uc f n l e s with
  |some x=>some (.inr x)
  |none=>none
theorem Yaq{R:Option Nat}{P:Program}{nt:Nat}{c:Code}{Q:Exit->St->Prop}{s:St}{f:Xh}{O:Qm}{l:Xv}{F:Nat}{x0:O.El}{y:Z8 l}{step:O.El->Option (O.El ⊕ Z8 l)}
  (hm:s.marks=[]) (hf:f.ok=true) (hl:Qaz f l=true) (hτ:O.V8 (f.of O)=true)
  (hstep:∀x r,step x=some r->Zl R P nt c (fun e s'=>Qk3 f s.H.length O l e s'=some r) (O.st f.D (f.of O) f.mv s x))
  (h0:Km O f s.H.length s.sub=some x0) (hrun:Q4 step F x0=some y) (hne:(Jr f s l y).1≠.normal) (hq:Q (Jr f s l y).1 (s.outer (Jr f s l y).2)):Zl R P nt (.loop c) Q s:=by
 intro B M Z a w hg;have gs:=Qxt hg hm;have hbase:=fun ids=>Qwo hg f.D ids f.mv;let J:Nat->Act->World->Prop:=fun n a' w'=>∃M' Z' x,Q4 step n x=some y∧Good (Qgh a) nt M' Z' (O.st f.D (f.of O) f.mv s x) a' w'∧Fr M Z s.H w M' Z' (O.st f.D (f.of O) f.mv s x).H w' s.H.length (f.of O) f.mv;refine wpIn_loop (fun a w=>∃n,J n a w) (fun a w=>leastOf (fun n=>J n a w)) ?_ ?_
 ·obtain⟨r1,c',hc,r2⟩:=Qer h0;obtain⟨M'',Z'',g1,g2,_⟩:=Qbu (b:=s) (H0:=s.H) (M0:=M) (ρ0:=Z) (a0:=a) (w0:=w) (fun _ _=>rfl) (hbase _) hg.mem gs (Fr.refl ..) (Qfs hf) hτ r1 r2 hc;exact⟨F,M'',Z'',x0,hrun,g1,g2⟩
 ·intro a1 w1 hI;obtain⟨hJ,hmin⟩:=leastOf_spec hI;obtain⟨M1,ρ1,x,hx,g1,f1⟩:=hJ;generalize hn:leastOf (fun n=>J n a1 w1)=n at hx hmin;cases n with
  |zero=>cases hx
  |succ n=>
   simp only[Q4]at hx;cases hs:step x with
   |none=>simp only[hs]at hx;cases hx
   |some r=>
    refine wpIn_mono (hstep x r hs (Qgh a) M1 ρ1 a1 w1 g1) ?_
    rintro e a2 w2 ⟨M2,ρ2,s2,hk,g2,go2⟩
    obtain⟨e1,e2,e3,e4,e5⟩:=Qm.Qj1 O f.D (f.of O) f.mv s x;have f2:Fr M Z s.H w M2 ρ2 s2.H w2 s.H.length s2.tch s2.fg:=by have hfr:=go2.fr;rw[e1]at hfr;exact f1.trans hfr (fun z hz=>go2.tch z (by rw[e2];exact hz)) (fun z hz=>hz) (fun z hz=>go2.fg z (by rw[e3];exact hz)) (fun z hz=>hz)
    unfold Qk3 at hk;cases e with
    |normal=>
     simp only at hk;split at hk
     ·rename_i z hz;cases hk;simp only[hs]at hx;obtain⟨r1,c',hc,r2⟩:=Qer hz;obtain⟨M'',Z'',k1,k2,_⟩:=Qbu (b:=s) (H0:=s.H) (M0:=M) (ρ0:=Z) (a0:=a) (w0:=w) (fun _ _=>rfl) (hbase _) hg.mem g2 f2 (Qfs hf) hτ r1 r2 hc;have hx':J n a2 w2:=⟨M'',Z'',z,hx,k1,k2⟩;show(∃n,J n a2 w2)∧leastOf (fun n=>J n a2 w2)<n+1;exact⟨⟨n,hx'⟩,ZR ((leastOf_spec ⟨n,hx'⟩).2 n hx')⟩
     ·cases hk
    |_=>
     simp only at hk;split at hk
     ·rename_i z hz;cases hk;simp only[hs,ZJ]at hx;subst hx;obtain⟨O',z',h1,h2,h3⟩:=Qn3 (b:=s) hl hz;obtain⟨r1,c',hc,r2⟩:=Qer h2;obtain⟨M'',Z'',k1,k2,_⟩:=Qbu (b:=s) (H0:=s.H) (M0:=M) (ρ0:=Z) (a0:=a) (w0:=w) (fun _ _=>rfl) (hbase _) hg.mem g2 f2 (Qfs hf) h1 r1 r2 hc;obtain⟨q1,q2,q3,q4,q5⟩:=Qm.Qj1 O' f.D (f.of O') f.mv s z';obtain⟨m1,m2⟩:=Qt7 hg hm k1 k2 q1 q2 q3 q4;rw[h3]at hq;exact⟨M'',Z'',_,hq,m1,m2⟩
     ·cases hk
def Qkm(s:St)(slot ty:Nat)(row:List Ty):St:=
 {T:=s.T.set slot (.sl s.H.length row.length 0 0),H:=s.H++[.tvec ty row []],n0:=s.n0,tch:=s.tch,fg:=s.fg,marks:=s.marks,er:=s.er}
theorem Ybz{R:Option Nat}{P:Program}{nt:Nat}{c:Code}{Q:Exit->St->Prop}{s:St}{slot ty:Nat}{row:List Ty}{v:Value}(hs:s.T.get slot=some (.lit v))(hv:Value.isNil v=true)
  (h:Zl R P nt c Q (Qkm s slot ty row)):Zl R P nt c Q s:=by
 refine Zl.Qhc (fun B M Z a w hg=>⟨Z,?_,?_⟩) h
 ·obtain⟨m1,m2⟩:=hg.mem.virt (ty:=ty) (sz:=row.length);refine⟨fun t y hy=>?_,hg.sz,?_,hg.df,hg.mks,by show s.n0<=(s.H++[Qb.tvec ty row []]).length;have:=hg.nle;simp;omega,hg.fix⟩
  ·rcases TT.Kv _ _ _ _ _ hy with⟨rfl,rfl⟩|⟨_,hy⟩
   ·have:=(hg.tm _ _ hs).Zq;rw[this];unfold Value.isNil at hv;split at hv
    ·simp only[ZA]at hv;rw[C hv.1,C hv.2];exact .slz _ _ _ _
    ·cases hv
   ·exact hg.tm t y hy
  ·have:=m1.described (s:=s.H.length) (o:=.vec ty row.length []) (o':=.tvec ty row []) (by simp) rfl (fun h=>h);simpa[Qkm]using this
 ·obtain⟨m1,m2⟩:=hg.mem.virt (ty:=ty) (sz:=row.length);have m3:=m2.described (s:=s.H.length) (o:=.vec ty row.length []) (o':=.tvec ty row []) (by simp) rfl;refine⟨?_,rfl,fun _ h=>h,fun _ h=>h⟩;have m4:=m3.weaken (n':=s.n0) (t':=s.tch) (f':=s.fg) hg.nle (fun x _ h=>by cases h) (fun x _ h=>by cases h);simpa[Qkm]using m4
def Qdb(F:Fence)(n:Nat)(P:Program)(c:Code)(Q:Exit->Act->World->Prop)(a:Act)(w:World):Prop:=
 ∀(b:Frame) (k:List Item) (cs:List Frame),b.roundOf=F.round->F.fn b.fn->F.room (cs.length+1+n)->
  ∃e a' w',Q e a' w'∧ArrivesIn (Machine.fenced P F) P (lone (b.atR a (.code c::.inLoop c::k)) cs w) b k cs e a' w'
theorem Qdb.wp{F:Fence}{n:Nat}{P:Program}{c:Code}{Q:Exit->Act->World->Prop}{a:Act}{w:World}(h:Qdb F n P c Q a w):(Code.loop c).wpIn F n P Q a w:=by intro b k cs hro hb hr;obtain⟨e,a',w',hq,harr⟩:=h b k cs hro hb hr;exact⟨e,a',w',hq,.of_steps (.one (fenced_calm hb hr rfl) stepR_loop) harr⟩
theorem Qdb.mono{F:Fence}{n:Nat}{P:Program}{c:Code}{Q Q':Exit->Act->World->Prop}{a:Act}{w:World}(h:Qdb F n P c Q a w)(hq:∀e a w,Q e a w->Q' e a w):Qdb F n P c Q' a w:=
 fun b k cs hro hb hr=>let⟨e,a',w',q,r⟩:=h b k cs hro hb hr;⟨e,a',w',hq _ _ _ q,r⟩
theorem Zm7{F:Fence}{n:Nat}{P:Program}{c:Code}{Q:Exit->Act->World->Prop}{a:Act}{w:World}(I:Act->World->Prop)(μ:Act->World->Nat)(h₀:I a w)
  (round:∀a w,I a w->c.wpIn F n P (Exit.then (fun a' w'=>(I a' w'∧μ a' w'<μ a w)∨Qdb F n P c Q a' w') Q) a w):Qdb F n P c Q a w:=by
 intro b k cs hro hb hr;have key:∀j a w,μ a w=j->I a w->
   ∃e a' w',Q e a' w'∧ArrivesIn (Machine.fenced P F) P (lone (b.atR a (.code c::.inLoop c::k)) cs w) b k cs e a' w':=by
  intro j;induction j using Nat.strongRecOn with
  |_ j ih=>
   intro a w hn hI;obtain⟨e,a₁,w₁,hq,harr⟩:=round a w hI b (.inLoop c::k) cs hro hb hr;cases e with
   |normal=>
    rcases hq with⟨hI₁,hlt⟩|hL
    ·obtain⟨e₂,a₂,w₂,hq₂,harr₂⟩:=ih (μ a₁ w₁) (hn▸hlt) a₁ w₁ rfl hI₁;exact⟨e₂,a₂,w₂,hq₂,.of_steps (StepsIn.trans harr (.one (fenced_calm hb hr rfl) stepR_inLoop)) harr₂⟩
    ·obtain⟨e₂,a₂,w₂,hq₂,harr₂⟩:=hL b k cs hro hb hr;exact⟨e₂,a₂,w₂,hq₂,.of_steps (StepsIn.trans harr (.one (fenced_calm hb hr rfl) stepR_inLoop)) harr₂⟩
   |exit id=>exact⟨_,a₁,w₁,hq,.pass (x:=.inLoop c) rfl (fun _ _=>.inl (by simp)) harr⟩
   |goto l=>exact⟨_,a₁,w₁,hq,.pass (x:=.inLoop c) rfl (fun _ _=>.inl (by simp)) harr⟩
   |ret=>exact⟨_,a₁,w₁,hq,.pass (x:=.inLoop c) rfl (fun _ _=>.inl (by simp)) harr⟩
   |panic ch=>exact⟨_,a₁,w₁,hq,.pass (x:=.inLoop c) rfl (fun _ _=>.inl (by simp)) harr⟩
   |outgrown=>exact⟨_,a₁,w₁,hq,.pass (x:=.inLoop c) rfl (fun _ _=>.inl (by simp)) harr⟩
 exact key _ a w rfl h₀
def Qi7(R:Option Nat)(P:Program)(nt:Nat)(c:Code)(Q:Exit->St->Prop)(s:St):Prop:=
 ∀B M Z a w,Good B nt M Z s a w->Qdb (FW R) 0 P c (fun e a' w'=>∃M' Z' s',Q e s'∧Good B nt M' Z' s' a' w'∧Y2 M Z s w M' Z' s' w') a w
theorem Qi7.wp{R:Option Nat}{P:Program}{nt:Nat}{c:Code}{Q:Exit->St->Prop}{s:St}(h:Qi7 R P nt c Q s):Zl R P nt (.loop c) Q s:=fun B M Z a w hg=>(h B M Z a w hg).wp
def Qtq(f:Xh)(n:Nat)(O:Qm)(l:Xv)(e:Exit)(s:St):Option (O.El ⊕ Z8 l):=match e with
 |.normal=>match Km O f n s with
  |some x=>some (.inl x)
  |none=>match Uc f n l .normal s with
   |some x=>some (.inr x)
   |none=>none
 |e=>match Uc f n l e s with
  |some x=>some (.inr x)
  |none=>none
theorem Znu{f:Xh}{n:Nat}{O:Qm}{l:Xv}{e:Exit}{s:St}{r:O.El ⊕ Z8 l}(h:Qtq f n O l e s=some r):(∃x,r=.inl x∧e=.normal∧Km O f n s=some x)∨∃z,r=.inr z∧Uc f n l e s=some z:=by
 unfold Qtq at h;cases e with
 |normal=>
  simp only at h;split at h
  ·rename_i x hx;cases h;exact .inl ⟨x,rfl,rfl,hx⟩
  ·split at h
   ·rename_i z hz;cases h;exact .inr ⟨z,rfl,hz⟩
   ·cases h
 |_=>
  simp only at h;split at h
  ·rename_i z hz;cases h;exact .inr ⟨z,rfl,hz⟩
  ·cases h
theorem Zyx{f:Xh}{n:Nat}{O:Qm}{l:Xv}{e:Exit}{s:St}{r:O.El ⊕ Z8 l}(h:Qk3 f n O l e s=some r):(∃x,r=.inl x∧e=.normal∧Km O f n s=some x)∨∃z,r=.inr z∧Uc f n l e s=some z:=by
 unfold Qk3 at h;cases e with
 |normal=>
  simp only at h;split at h
  ·rename_i x hx;cases h;exact .inl ⟨x,rfl,rfl,hx⟩
  ·cases h
 |_=>
  simp only at h;split at h
  ·rename_i z hz;cases h;exact .inr ⟨z,rfl,hz⟩
  ·cases h
theorem Zlf{R:Option Nat}{P:Program}{nt:Nat}{c:Code}{Q:Exit->St->Prop}{s:St}{f:Xh}{O:Qm}{l:Xv}{F:Nat}{x0:O.El}{y:Z8 l}{step:O.El->Option (O.El ⊕ Z8 l)}{rk:Exit->St->Option (O.El ⊕ Z8 l)}
  (hrk:∀e s' r,rk e s'=some r->(∃x,r=.inl x∧e=.normal∧Km O f s.H.length s'=some x)∨∃z,r=.inr z∧Uc f s.H.length l e s'=some z)
  (hm:s.marks=[]) (hf:f.ok=true) (hl:Qaz f l=true) (hτ:O.V8 (f.of O)=true)
  (hstep:∀x r,step x=some r->Zl R P nt c (fun e s'=>rk e s'=some r) (O.st f.D (f.of O) f.mv s x))
  (h0:Km O f s.H.length s.sub=some x0) (hrun:Q4 step F x0=some y)
  (hn:(Jr f s l y).1=.normal->Qi7 R P nt c Q (s.outer (Jr f s l y).2)) (hq:(Jr f s l y).1≠.normal->Q (Jr f s l y).1 (s.outer (Jr f s l y).2)):Qi7 R P nt c Q s:=by
 intro B M Z a w hg;have gs:=Qxt hg hm;have hbase:=fun ids=>Qwo hg f.D ids f.mv;let J:Nat->Act->World->Prop:=fun n a' w'=>∃M' Z' x,Q4 step n x=some y∧Good (Qgh a) nt M' Z' (O.st f.D (f.of O) f.mv s x) a' w'∧Fr M Z s.H w M' Z' (O.st f.D (f.of O) f.mv s x).H w' s.H.length (f.of O) f.mv;refine Zm7 (fun a w=>∃n,J n a w) (fun a w=>leastOf (fun n=>J n a w)) ?_ ?_
 ·obtain⟨r1,c',hc,r2⟩:=Qer h0;obtain⟨M'',Z'',g1,g2,_⟩:=Qbu (b:=s) (H0:=s.H) (M0:=M) (ρ0:=Z) (a0:=a) (w0:=w) (fun _ _=>rfl) (hbase _) hg.mem gs (Fr.refl ..) (Qfs hf) hτ r1 r2 hc;exact⟨F,M'',Z'',x0,hrun,g1,g2⟩
 ·intro a1 w1 hI;obtain⟨hJ,hmin⟩:=leastOf_spec hI;obtain⟨M1,ρ1,x,hx,g1,f1⟩:=hJ;generalize hn':leastOf (fun n=>J n a1 w1)=n at hx hmin;cases n with
  |zero=>cases hx
  |succ n=>
   simp only[Q4]at hx;cases hs:step x with
   |none=>simp only[hs]at hx;cases hx
   |some r=>
    refine wpIn_mono (hstep x r hs (Qgh a) M1 ρ1 a1 w1 g1) ?_
    rintro e a2 w2 ⟨M2,ρ2,s2,hk,g2,go2⟩
    obtain⟨e1,e2,e3,e4,e5⟩:=Qm.Qj1 O f.D (f.of O) f.mv s x;have f2:Fr M Z s.H w M2 ρ2 s2.H w2 s.H.length s2.tch s2.fg:=by have hfr:=go2.fr;rw[e1]at hfr;exact f1.trans hfr (fun z hz=>go2.tch z (by rw[e2];exact hz)) (fun z hz=>hz) (fun z hz=>go2.fg z (by rw[e3];exact hz)) (fun z hz=>hz)
    rcases hrk e s2 r hk with⟨z,rfl,rfl,hz⟩|⟨z,rfl,hz⟩
    ·simp only[hs]at hx;obtain⟨r1,c',hc,r2⟩:=Qer hz;obtain⟨M'',Z'',k1,k2,_⟩:=Qbu (b:=s) (H0:=s.H) (M0:=M) (ρ0:=Z) (a0:=a) (w0:=w) (fun _ _=>rfl) (hbase _) hg.mem g2 f2 (Qfs hf) hτ r1 r2 hc;have hx':J n a2 w2:=⟨M'',Z'',z,hx,k1,k2⟩;refine .inl ?_;show(∃n,J n a2 w2)∧leastOf (fun n=>J n a2 w2)<n+1;exact⟨⟨n,hx'⟩,ZR ((leastOf_spec ⟨n,hx'⟩).2 n hx')⟩
    ·simp only[hs,ZJ]at hx;subst hx;obtain⟨O',z',h1,h2,h3⟩:=Qn3 (b:=s) hl hz;obtain⟨r1,c',hc,r2⟩:=Qer h2;obtain⟨M'',Z'',k1,k2,_⟩:=Qbu (b:=s) (H0:=s.H) (M0:=M) (ρ0:=Z) (a0:=a) (w0:=w) (fun _ _=>rfl) (hbase _) hg.mem g2 f2 (Qfs hf) h1 r1 r2 hc;obtain⟨q1,q2,q3,q4,q5⟩:=Qm.Qj1 O' f.D (f.of O') f.mv s z';obtain⟨m1,m2⟩:=Qt7 hg hm k1 k2 q1 q2 q3 q4;rw[h3]at hq hn;cases e with
     |normal=>exact .inr ((hn rfl B M'' Z'' a2 w2 m1).mono fun e a3 w3 ⟨M3,ρ3,s3,q,g,go⟩=>⟨M3,ρ3,s3,q,g,m2.trans go⟩)
     |exit id=>exact⟨M'',Z'',_,hq (fun h=>nomatch h),m1,m2⟩
     |goto lb=>exact⟨M'',Z'',_,hq (fun h=>nomatch h),m1,m2⟩
     |ret=>exact⟨M'',Z'',_,hq (fun h=>nomatch h),m1,m2⟩
     |panic ch=>exact⟨M'',Z'',_,hq (fun h=>nomatch h),m1,m2⟩
     |outgrown=>exact⟨M'',Z'',_,hq (fun h=>nomatch h),m1,m2⟩
end Go.Sx
