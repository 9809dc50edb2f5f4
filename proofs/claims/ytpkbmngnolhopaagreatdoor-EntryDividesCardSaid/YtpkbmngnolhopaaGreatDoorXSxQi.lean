/- Part Qi of the own logic: functions of data that return a fresh row, which is the caller's own. Functions whose function of data is the evaluator's own answer (no text is printed of it). And further parts. -/
import Derived.Test.YtpkbmngnolhopaaGreatDoorXSxSa
import GoSem.ClaimJoined
import Derived.ChangeSame
import Derived.ChangeVars
import Derived.JoinedOf
import Derived.RowKit
import Derived.WideKeyArgs
import Derived.Below
import Derived.Handed
import Derived.CallsIn
set_option linter.unusedVariables false
set_option linter.unusedSimpArgs false
set_option linter.unnecessarySimpa false
set_option maxRecDepth 100000
namespace Go.Sx
open Go
structure PF where
 ats:List Qf
 ty:Nat
 row:List Ty
 code:Qw ats→Option (List (Qh row))
structure X1 (cx:Cx) (g:Nat) (pf:PF):Prop where
 fn:∃fn,cx.fns.lookup g=some fn
 ok:∀a l,pf.code a=some l→Yu cx.P g (Z5 pf.ats a) [] fun r H' t f=>r=.sl 0 pf.row.length 0 l.length∧H'=[.tvec pf.ty pf.row l]∧t=[]∧f=[]
def PF.sm(pf:PF):Sm where
 pre:=fun args H=>(rdL [] 0 pf.ats args).isSome
 run:=fun X args H k=>match rdL [] 0 pf.ats args with
  |some p=>gd p.1 (match pf.code p.2 with
   |some l=>k (.sl H.length pf.row.length 0 l.length) (H++[.tvec pf.ty pf.row l]) [] []
   |none=>none)
  |none=>none
theorem PF.Q0{cx:Cx}{g:Nat}{pf:PF}(h:X1 cx g pf):Qbz cx g pf.sm:=by
 refine⟨h.fn,fun X args H k y hk=>?_⟩;have hk:(match rdL [] 0 pf.ats args with
  |some p=>gd p.1 (match pf.code p.2 with
   |some l=>k (.sl H.length pf.row.length 0 l.length) (H++[.tvec pf.ty pf.row l]) [] []
   |none=>none)
  |none=>none)=some y:=hk
 split at hk
 ·rename_i p hrd;obtain⟨hc,hk⟩:=Ya hk;split at hk
  ·rename_i z hz;intro M ρ w vs hm hr;obtain⟨l1,l2⟩:=Qup (M:=M) (ρ:=ρ) (ρ2:=Xz) pf.ats args p.1 p.2 hrd hc;refine(h.ok p.2 z hz M Xz w vs (Qfp hm.imm) ⟨by rw[hr.1,l1],fun i v x hv hx=>?_⟩).mono ?_
   ·obtain⟨x',hx'⟩:∃x',args[i]? =some x':=by
     have:i<args.length:=by rw[←l1];exact(List.getElem?_eq_some_iff.1 hx).1
     exact⟨_,List.getElem?_eq_getElem this⟩
    exact l2 i v x x' hx hx' (hr.2 i v x' hv hx')
   ·rintro e w' ⟨v,r,H',M',ρ',t,f,he,⟨rfl,rfl,rfl,rfl⟩,hs,hm',hf⟩
    have hsame:∀b,b<w.heap.size→w'.heap[b]? =w.heap[b]? :=fun b hb=>hf.same b hb K2;have hnewb:∀q b,ρ' 0=some q→q.has b→w.heap.size≤b:=fun q b hq hb=>by
     rcases hf.own b ⟨0,_,q,rfl,rfl,hq,hb⟩with h1|h1
     ·exact h1
     ·exact absurd h1 K2
    have hle:ρ.le (ρ.set H.length (ρ' 0)):=fun s p hp=>by
     have:s≠H.length:=fun e=>by subst e;rw[hm.fresh _ (Nat.le_refl _)]at hp;cases hp
     rw[Env.Yj _ _ this];exact hp
    have hobj:∀s o,(H++[Qa.tvec pf.ty pf.row z])[s]? =some o→(s<H.length∧H[s]? =some o)∨(s=H.length∧o=.tvec pf.ty pf.row z):=fun s o ho=>by
     rw[List.getElem?_append]at ho;split at ho
     ·exact .inl ⟨by assumption,ho⟩
     ·rename_i hlt;have:s-H.length=0:=by have:=(List.getElem?_eq_some_iff.1 ho).1;simp at this;omega
      rw[this]at ho;simp at ho;exact .inr ⟨by omega,ho.symm⟩
    have hset:∀s,s<H.length→(ρ.set H.length (ρ' 0)) s=ρ s:=fun s hs=>Env.Yj _ _ (by omega);refine⟨v,_,_,M',ρ.set H.length (ρ' 0),[],[],he,hk,?_,?_,?_⟩
    ·generalize z.length=n at hs;cases hs with
     |sl _ _ _ _ c k q hq hkk hcc hnn h6=>exact .sl _ _ _ _ c k q (by rw[Env.Zx];exact hq) hkk hcc hnn h6
     |slz _ _ _ a=>exact .slz _ _ _ _
    ·refine⟨hm'.imm,fun s o ho=>?_,fun s o q b ho hl hq hb=>?_,fun s s1 o o1 q q1 b ho ho1 hl hl1 hq hq1 hb hb'=>?_,fun s hs=>?_,fun s o q b ho hl hq hb=>?_⟩
     ·rcases hobj s o ho with⟨hs,ho⟩|⟨rfl,rfl⟩
      ·by_cases hl:o.live=true
       ·exact(hm.own s o ho).mono hf.imm hle (hset s hs) fun p b hp hb=>hsame _ (hm.Xv ho hl hp hb)
       ·rw[Kx hl];trivial
      ·have h0:=hm'.own 0 _ rfl;rcases h0 with⟨h1,h2⟩|⟨q,h1,h2⟩
       ·exact .inl ⟨by rw[Env.Zx];exact h1,h2⟩
       ·refine .inr ⟨q,by rw[Env.Zx];exact h1,?_⟩;obtain⟨cs,a1,a2,a3,a4,a5,a6⟩:=h2.ex;refine⟨cs,a1,a2,a3,a4,fun i j x v hx hv=>?_,a6⟩;obtain⟨b1,b2,b3⟩:=a5 i j x v hx hv;refine⟨b1,b2,?_⟩;unfold Z4 at hx;simp only[Option.map_eq_some_iff]at hx;obtain⟨pp,_,rfl⟩:=hx;cases b3 with
        |pv b3=>exact .pv b3
     ·rcases hobj s o ho with⟨hs,ho⟩|⟨rfl,rfl⟩
      ·rw[hset s hs]at hq;cases e:M' b with
       |none=>rfl
       |some ob=>
        rcases hf.new b ob (hm.seps s o q b ho hl hq hb) e with h1|h1
        ·have:=hm.Xv ho hl hq hb;omega
        ·exact absurd h1 K2
      ·rw[Env.Zx]at hq;exact hm'.seps 0 _ q b rfl rfl hq hb
     ·rcases hobj s o ho with⟨hs,ho⟩|⟨rfl,rfl⟩<;>rcases hobj s1 o1 ho1 with⟨hs1,ho1⟩|⟨rfl,rfl⟩
      ·rw[hset s hs]at hq;rw[hset s1 hs1]at hq1;exact hm.diss s s1 o o1 q q1 b ho ho1 hl hl1 hq hq1 hb hb'
      ·rw[hset s hs]at hq;rw[Env.Zx]at hq1;have h1:=hm.Xv ho hl hq hb;have h2:=hnewb q1 b hq1 hb';omega
      ·rw[Env.Zx]at hq;rw[hset s1 hs1]at hq1;have h1:=hm.Xv ho1 hl1 hq1 hb';have h2:=hnewb q b hq hb;omega
      ·rfl
     ·have hs':H.length+1≤s:=by simpa using hs
      rw[Env.Yj _ _ (by omega)];exact hm.fresh s (by omega)
     ·rcases hobj s o ho with⟨hs,ho⟩|⟨rfl,rfl⟩
      ·rw[hset s hs]at hq;exact Nat.lt_of_lt_of_le (hm.lts s o q b ho hl hq hb) hf.grow
      ·rw[Env.Zx]at hq;exact hm'.lts 0 _ q b rfl rfl hq hb
    ·refine⟨hf.imm,fun b o a c=>(hf.new b o a c).imp id fun h=>absurd h K2,fun b hb=>?_,fun b hb _=>hsame b hb,hf.grow,fun s o hs _ ho hl=>⟨⟨o,by rw[List.getElem?_append_left hs];exact ho,hl⟩,fun p hp=>⟨hle s p hp,fun b hb=>hsame _ (hm.Xv ho hl hp hb)⟩⟩,fun s hs _=>hset s hs,hf.io⟩;obtain⟨s,o,q,h1,h2,h3,h4⟩:=hb;rcases hobj s o h1 with⟨hs,ho⟩|⟨rfl,rfl⟩
     ·rw[hset s hs]at h3;exact .inr ⟨s,o,q,ho,h2,h3,h4⟩
     ·rw[Env.Zx]at h3;exact .inl (hnewb q b h3 h4)
  ·cases hk
 ·cases hk
def Qnt(ty:Nat)(row:List Ty)(H:List Qa)(r:SV):Option (List (Qh row)):=match r with
 |.pv (.lit (.slice none 0 0))=>some []
 |.sl k sz 0 n=>match H[k]? with
  |some (.tvec ty' row' l)=>match Nat.beq ty' ty&&Nat.beq sz row.length with
   |true=>match Wx row' row l with
    |some l=>gd (decide (n=l.length)) (some l)
    |none=>none
   |false=>none
  |_=>none
 |_=>none
def Qro(ty:Nat)(row:List Ty)(H:List Qa):List SV→Option (List (Qh row))
 |[r]=>Qnt ty row H r
 |_=>none
def Zcs(cx:Cx)(fn:Func)(ty:Nat)(row:List Ty):KX (List (Qh row)):=fun e s=>
 gd (Qhf e) (match shut s.marks s.H with
  |none=>none
  |some H'=>Un cx {s with H:=H',marks:=[]} fn.results.toList fun l=>Qro ty row H' l)
def codeF(cx:Cx)(lx:Lx)(n:Nat)(an:Q6)(fn:Func)(c:Code)(ats:List Qf)(ty:Nat)(row:List Ty)(a:Qw ats):Option (List (Qh row)):=
 Y8 cx lx n (List (Qh row)) (Je (Qh.eqv row)) an true fn.ntmps c (.entry (Z5 ats a) []) (Zcs cx fn ty row)
theorem X1.Zr{cx:Cx}(hcx:cx.Ok){lx:Lx}(hlx:lx.Ok cx){n g:Nat}{an:Q6}{fn:Func}{c:Code}{pf:PF}(hf:cx.fns.lookup g=some fn)(hb:fn.body=some c)
  (hcode:∀a y,pf.code a=some y→codeF cx lx n an fn c pf.ats pf.ty pf.row a=some y) (hn:Nat.ble pf.ats.length fn.ntmps=true):X1 cx g pf:=by
 refine⟨⟨fn,hf⟩,fun a y hy=>?_⟩;have hlen:∀(l:List Qf) (x:Qw l),(Z5 l x).length=l.length:=by
  intro l;induction l with
  |nil=>intro _;rfl
  |cons a l ih=>
   cases l with
   |nil=>intro _;rfl
   |cons b l=>intro x;simp only[Z5,List.length_cons,ih x.2]
 have hw:=(Qh8 hcx hlx n).1 _ _ (Qbk (Qh.eqv_ok pf.row)) none an true fn.ntmps c _ _ y (fun _=>rfl) (hcode a y hy);have hcall:Yu cx.P g (Z5 pf.ats a) [] fun r H' t f=>∃l,r=Y0 l∧Qro pf.ty pf.row H' l=some y:=by
  refine Qh9 hcx hf hb (by rw[hlen];exact Nat.le_of_ble_eq_true hn) (hw.mono fun e s hs=>?_);obtain⟨h1,h⟩:=Ya hs;split at h
  ·cases h
  ·rename_i H' hsh;exact⟨Qh4 h1,.inl (Nat.zero_le _),H',hsh,Qac _ _ _ (fun l h4=>⟨l,rfl,h4⟩) (Qbj _ _ h)⟩
 intro M ρ w vs hm hr;refine(hcall M ρ w vs hm hr).mono ?_
 rintro e w' ⟨v,r,H',M',ρ',t,f,he,⟨l,rfl,hrd⟩,hs,hm',hfr⟩
 obtain⟨x,rfl⟩:∃x,l=[x]:=by
  unfold Qro at hrd;split at hrd
  ·exact⟨_,rfl⟩
  ·cases hrd
 replace hs:Qd M' ρ' v x:=hs;replace hrd:Qnt pf.ty pf.row H' x=some y:=hrd;have key:∃q:Option Place,Qd M' (fun s=>bif Nat.beq s 0 then q else none) v (.sl 0 pf.row.length 0 y.length)∧Qt M' (fun s=>bif Nat.beq s 0 then q else none) w' 0 (.tvec pf.ty pf.row y)∧
   (∀p,q=some p→p.subs=[]∧M' p.block=none∧(w.heap.size≤p.block∨Xu ρ [] p.block)):=by
  unfold Qnt at hrd;split at hrd
  ·cases hrd;have:=hs.Q7;subst this;exact⟨none,.slz _ _ _ _,.inl ⟨rfl,rfl⟩,fun p h=>by cases h⟩
  ·rename_i k sz n;split at hrd
   ·rename_i ty' row' l0 ho;split at hrd
    ·rename_i hc;rw[Bool.and_eq_true]at hc;have e1:=Nat.eq_of_beq_eq_true hc.1;have e2:=Nat.eq_of_beq_eq_true hc.2;subst e1;subst e2;split at hrd
     ·rename_i l1 hcast;obtain⟨hn2,hrd⟩:=Ya hrd;have hn2:=of_decide_eq_true hn2;have hrd:=Option.some.inj hrd;subst hrd;obtain⟨e3,e4⟩:=Kg hcast;subst e3;have e4:l1=l0:=e4;subst e4;subst hn2;have hown:=hm'.own k _ ho;refine⟨(ρ' k).map fun p=>⟨p.block,p.cap,[]⟩,?_,?_,fun p hp=>by obtain⟨p0,hp0,rfl⟩:=Option.map_eq_some_iff.1 hp;exact⟨rfl,hm'.sep k _ p0 ho rfl hp0,hfr.own p0.block ⟨k,_,p0,ho,rfl,hp0,p0.self⟩⟩⟩
      ·generalize l1.length=m at hs;cases hs with
       |sl _ _ _ _ c k2 q hq hkk hcc hnn h6=>exact .sl _ _ _ _ c k2 ⟨q.block,q.cap,[]⟩ (by show(ρ' k).map _=_;rw[hq];rfl) hkk hcc hnn h6
       |slz _ _ _ a=>exact .slz _ _ _ _
      ·rcases hown with⟨h1,h2⟩|⟨q,h1,h2⟩
       ·exact .inl ⟨by show(ρ' k).map _=_;rw[h1];rfl,h2⟩
       ·refine .inr ⟨⟨q.block,q.cap,[]⟩,by show(ρ' k).map _=_;rw[h1];rfl,?_⟩;obtain⟨cs,a1,a2,a3,a4,a5,a6⟩:=h2.ex;refine⟨cs,a1,a2,a3,a4,fun i j x v hx hv=>?_,a6⟩;obtain⟨b1,b2,b3⟩:=a5 i j x v hx hv;refine⟨b1,b2,?_⟩;unfold Z4 at hx;simp only[Option.map_eq_some_iff]at hx;obtain⟨pp,_,rfl⟩:=hx;cases b3 with
        |pv b3=>exact .pv b3
     ·cases hrd
    ·cases hrd
   ·cases hrd
  ·cases hrd
 obtain⟨q,k1,k2,k3⟩:=key;have hone:∀(s:Nat) (o:Qa),([Qa.tvec pf.ty pf.row y]:List Qa)[s]? =some o→s=0∧o=.tvec pf.ty pf.row y:=fun s o h=>by
  match s,h with
  |0,h=>simp at h;exact⟨rfl,h.symm⟩
  |s+1,h=>simp at h
 refine⟨v,_,_,M',fun s=>bif Nat.beq s 0 then q else none,[],[],he,⟨rfl,rfl,rfl,rfl⟩,k1,?_,?_⟩
 ·refine⟨hm'.imm,fun s o ho=>?_,fun s o p b ho hl hp hb=>?_,fun s s1 o o1 p p1 b ho ho1 _ _ _ _ _ _=>?_,fun s hs=>?_,fun s o p b ho hl hp hb=>?_⟩
  ·obtain⟨rfl,rfl⟩:=hone s o ho;exact k2
  ·obtain⟨rfl,rfl⟩:=hone s o ho;obtain⟨e1,e2,e3⟩:=k3 p hp;rcases hb with rfl|hb
   ·exact e2
   ·rw[e1]at hb;cases hb
  ·rw[(hone s o ho).1,(hone s1 o1 ho1).1]
  ·have hs:1≤s:=by simpa using hs
   have:Nat.beq s 0=false:=Js (by omega);simp only[this,cond_false]
  ·obtain⟨rfl,rfl⟩:=hone s o ho;rw[(k3 p hp).1]at hb;cases hb
 ·refine⟨hfr.imm,hfr.new,fun b hb=>?_,hfr.same,hfr.grow,fun s o hs=>absurd hs (Nat.not_lt_zero s),fun s hs=>absurd hs (Nat.not_lt_zero s),hfr.io⟩;obtain⟨s,o,p,h1,h2,h3,h4⟩:=hb;obtain⟨rfl,rfl⟩:=hone s o h1;obtain⟨e1,e2,e3⟩:=k3 p h3;rcases h4 with rfl|h4
  ·exact e3
  ·rw[e1]at h4;cases h4
noncomputable def pcT(cx:Cx)(lx:Lx)(an:Q6)(fn:Func)(c:Code)(ats rts:List Qf):PC:={ats:=ats,rts:=rts,code:=Z9 cx lx 1000 an fn c ats rts}
theorem Zk1{cx:Cx}(hcx:cx.Ok){lx:Lx}(hlx:lx.Ok cx){g:Nat}{an:Q6}{fn:Func}{c:Code}{ats rts:List Qf}(hf:cx.fns.lookup g=some fn)(hb:fn.body=some c)
  (hn:Nat.ble ats.length fn.ntmps=true):Qg cx g (pcT cx lx an fn c ats rts):=Qg.Zr hcx hlx (n:=1000) hf hb (fun _ _ h=>h) hn
def pxB(np:Nat)(locs:List Loc)(τ:Qi)(nr:Nat)(ω:Qi)(ids mv:List Nat):PX:={np:=np,locs:=locs,τ:=τ,nr:=nr,ω:=ω,ids:=ids,mv:=mv,code:=fun _=>none}
noncomputable def pxT(cx:Cx)(lx:Lx)(an:Q6)(fn:Func)(c:Code)(p:PX):PX:={p with code:=Qlo cx lx 1000 an fn c p}
theorem Qsn{cx:Cx}(hcx:cx.Ok){lx:Lx}(hlx:lx.Ok cx){g:Nat}{an:Q6}{fn:Func}{c:Code}{p:PX}(hf:cx.fns.lookup g=some fn)(hb:fn.body=some c)
  (hn:Nat.ble p.np fn.ntmps=true) (hcov:(p.ω.J1 p.ids&&subset p.mv p.ids)=true):Zc cx g (pxT cx lx an fn c p):=Zc.Zr hcx hlx (n:=1000) hf hb (fun _ _ h=>h) hn hcov
theorem Zc.cast{cx:Cx}{g:Nat}{p q:PX}(h:p=q)(hq:Zc cx g q):Zc cx g p:=by rw[h];exact hq
def TI.bare(i:TI):TI:={i with row:=none}
def Cx.bare(cx:Cx):Cx:={P:=cx.P,tab:=cx.tab.map fun x=>(x.1,x.2.bare),fns:=cx.fns}
theorem Cx.Yc{cx:Cx}(h:cx.Ok):cx.bare.Ok:=by
 refine⟨⟨?_,?_,?_,?_,?_⟩,h.fns,h.mix⟩
 ·simpa[Cx.bare,List.map_map,Function.comp_def,TI.bare]using h.tab.und
 ·simpa[Cx.bare,List.map_map,Function.comp_def,TI.bare]using h.tab.siz
 ·simpa[Cx.bare,List.map_map,Function.comp_def,TI.bare]using h.tab.byt
 ·simpa[Cx.bare,List.map_map,Function.comp_def,TI.bare]using h.tab.zer
 ·simpa[Cx.bare,List.all_map,Function.comp_def,TI.bare]using h.tab.one
theorem Qg.bare{cx:Cx}{g:Nat}{pc:PC}(h:Qg cx g pc):Qg cx.bare g pc:=⟨h.fn,h.ok⟩
theorem Qg.full{cx:Cx}{g:Nat}{pc:PC}(h:Qg cx.bare g pc):Qg cx g pc:=⟨h.fn,h.ok⟩
theorem Zc.bare{cx:Cx}{g:Nat}{px:PX}(h:Zc cx g px):Zc cx.bare g px:=⟨h.fn,h.ok⟩
def PC.at(pc:PC)(a0:Qw pc.ats)(y0:Qw pc.rts):PC:={ats:=pc.ats,rts:=pc.rts,code:=fun a=>bif Qw.eqv pc.ats a a0 then some y0 else pc.code a}
theorem Qg.at{cx:Cx}{g:Nat}{pc:PC}(h:Qg cx g pc){a0:Qw pc.ats}{y0:Qw pc.rts}(he:pc.code a0=some y0):Qg cx g (pc.at a0 y0):=
 ⟨h.fn,fun a y hy=>by
  have hy:(bif Qw.eqv pc.ats a a0 then some y0 else pc.code a)=some y:=hy;cases e:Qw.eqv pc.ats a a0 with
  |true=>rw[e]at hy;exact h.ok a y (by rw[Qw.eqv_ok _ _ _ e,he];exact hy)
  |false=>rw[e]at hy;exact h.ok a y hy⟩
def one{ats rts:List Qf}(a0:Qw ats)(y0:Qw rts)(a:Qw ats):Option (Qw rts):=bif Qw.eqv ats a a0 then some y0 else none
theorem one_some{ats rts:List Qf}{a0 a:Qw ats}{y0 y:Qw rts}(h:one a0 y0 a=some y):a=a0∧y=y0:=by
 unfold one at h;cases e:Qw.eqv ats a a0 with
 |true=>rw[e]at h;cases h;exact⟨Qw.eqv_ok _ _ _ e,rfl⟩
 |false=>rw[e]at h;cases h
def PC.one(pc:PC)(a0:Qw pc.ats)(y0:Qw pc.rts):PC:={ats:=pc.ats,rts:=pc.rts,code:=fun a=>Go.Sx.one a0 y0 a}
theorem Qg.one{cx:Cx}{g:Nat}{pc:PC}(h:Qg cx g pc)(a0:Qw pc.ats)(y0:Qw pc.rts)(he:pc.code a0=some y0):Qg cx g (pc.one a0 y0):=
 ⟨h.fn,fun a y hy=>by obtain⟨h1,h2⟩:=one_some (show Go.Sx.one a0 y0 a=some y from hy);rw[h1,h2];exact h.ok _ _ he⟩
end Go.Sx
section
namespace Go.Sx
open Go
def Wd(w:World):Qc:=fun b=>w.heap[b]?
theorem Zwc{w:World}{a:Addr}{v:Value}(h:w.cell? a=some v):a.spot=none∧(Wd w).cell a.block a.off=some v:=by
 unfold World.cell? at h;unfold Qc.cell Wd;split at h
 ·rename_i c t f e;rw[e];split at h
  ·cases h
  ·rename_i hs;exact⟨by cases hh:a.spot<;>simp_all,h⟩
 ·cases h
def Zuz:IntKind→Nat
 |.i8=>1
 |.u8=>1
 |.i16=>2
 |.u16=>2
 |.i32=>4
 |.u32=>4
 |_=>8
def Ty.bytes:Ty→Nat
 |.int k=>Zuz k
 |.bool=>1
 |.str=>16
 |.seq _=>24
def Qnh:List Ty→Nat
 |[]=>0
 |t::ts=>t.bytes+Qnh ts
def Quy:List Ty→Bool
 |[]=>false
 |t::ts=>Nat.ble 8 t.bytes||Quy ts
def Qrv(r:List Ty):Nat:=bif Quy r then(Qnh r+7)/8*8 else Qnh r
def Zx7(k:IntKind)(n:Int):Prop:=k.min≤n∧n≤k.max
def Qx3(s:ByteArray):Prop:=s.size≤140737488351232
def Zkb{α:Type}(b:Nat)(f:α→Prop)(l:List α):Prop:=l.length*b≤140737488351232∧∀x∈l,f x
mutual
def Ty.ok:(t:Ty)→t.El→Prop
 |.int k=>Zx7 k
 |.bool=>fun _=>True
 |.str=>Qx3
 |.seq row=>Zkb (Qrv row) (Qh.ok row)
def Qh.ok:(ts:List Ty)→Qh ts→Prop
 |[]=>fun _=>True
 |[t]=>t.ok
 |t::t'::ts=>fun x=>t.ok x.1∧Qh.ok (t'::ts) x.2
end
def Qh.app:(r1 r2:List Ty)→Qh r1→Qh r2→Qh (r1++r2)
 |[],_,_,y=>y
 |[_],[],x,_=>x
 |[_],_::_,x,y=>(x,y)
 |_::t'::ts,r2,x,y=>(x.1,Qh.app (t'::ts) r2 x.2 y)
theorem Qx5:∀(r1 r2:List Ty) (x:Qh r1) (y:Qh r2),Za (r1++r2) (Qh.app r1 r2 x y)=Za r1 x++Za r2 y
 |[],_,_,_=>rfl
 |[_],[],x,_=>rfl
 |[_],_::_,x,y=>rfl
 |t::t'::ts,r2,x,y=>by have:=Qx5 (t'::ts) r2 x.2 y;show t.pv x.1::Za (t'::ts++r2) (Qh.app (t'::ts) r2 x.2 y)=t.pv x.1::(Za (t'::ts) x.2++Za r2 y);rw[this]
theorem Qtq:∀(r1 r2:List Ty) (x:Qh r1) (y:Qh r2),Qh.ok r1 x→Qh.ok r2 y→Qh.ok (r1++r2) (Qh.app r1 r2 x y)
 |[],_,_,_,_,h=>h
 |[_],[],x,_,h,_=>h
 |[t],t'::ts,x,y,h,k=>by exact⟨h,k⟩
 |t::t'::ts,r2,x,y,h,k=>by exact⟨h.1,Qtq (t'::ts) r2 x.2 y h.2 k⟩
structure Xp (w:World) (cs:List Value) (row:List Ty) (x:Qh row):Prop where
 len:cs.length=row.length
 one:∀v∈cs,X9 v=true
 rep:∀(j:Nat) (v:Value) (p:PV),cs[j]? =some v→(Za row x)[j]? =some p→Zb (Wd w) v p
 ok:Qh.ok row x
theorem Xp.nil(w:World):Xp w [] [] ():=⟨rfl,fun v h=>(by cases h),fun j v p h=>(by simp at h),trivial⟩
theorem Xp.single{w:World}{v:Value}{t:Ty}{x:t.El}(h1:X9 v=true)(h2:Zb (Wd w) v (t.pv x))(h3:t.ok x):Xp w [v] [t] x:=by
 refine⟨rfl,fun u hu=>?_,fun j u p hu hp=>?_,h3⟩
 ·rw[List.mem_singleton]at hu;rw[hu];exact h1
 ·cases j with
  |zero=>simp only[List.getElem?_cons_zero,Option.some.injEq]at hu;simp only[Za,List.getElem?_cons_zero,Option.some.injEq]at hp;subst hu;subst hp;exact h2
  |succ j=>simp at hu
theorem Xp.app{w:World}{c1 c2:List Value}{r1 r2:List Ty}{x:Qh r1}{y:Qh r2}(h:Xp w c1 r1 x)(k:Xp w c2 r2 y):Xp w (c1++c2) (r1++r2) (Qh.app r1 r2 x y):=by
 refine⟨by simp[h.len,k.len],fun v hv=>?_,fun j v p hv hp=>?_,Qtq _ _ _ _ h.ok k.ok⟩
 ·rcases List.mem_append.1 hv with hv|hv
  ·exact h.one v hv
  ·exact k.one v hv
 ·rw[Qx5]at hp;rw[List.getElem?_append]at hv hp;rw[Wf,←h.len]at hp;split at hv
  ·rename_i hj;rw[if_pos hj]at hp;exact h.rep j v p hv hp
  ·rename_i hj;rw[if_neg hj]at hp;exact k.rep _ v p hv hp
def Qfc(P:Program)(k:TypeId→Option (List Ty)):List Field→Nat→Option (List Ty)
 |[],_=>some []
 |f::fs,off=>match decide (f.offset=off)with
  |false=>none
  |true=>match k f.type with
   |none=>none
   |some r=>match decide (r.length=P.cellsOf f.type)with
    |false=>none
    |true=>match Qfc P k fs (off+r.length)with
     |none=>none
     |some rs=>some (r++rs)
def Qd2(r:List Ty):Nat→List Ty
 |0=>[]
 |n+1=>r++Qd2 r n
def Ka(P:Program):Nat→TypeId→Option (List Ty)
 |0,_=>none
 |n+1,t=>match P.underlying t with
  |some .bool=>some [.bool]
  |some (.int k)=>some [.int k]
  |some .string=>some [.str]
  |some (.slice e)=>match Ka P n e with
   |none=>none
   |some r=>match decide (r.length=P.cellsOf e)&&(decide (0<r.length)&&decide (Qrv r≤P.bytesOf e))with
    |true=>some [.seq r]
    |false=>none
  |some (.struct fs)=>match Qfc P (Ka P n) fs.toList 0 with
   |none=>none
   |some r=>match decide (r.length=P.cellsOf t)with
    |true=>some r
    |false=>none
  |some (.array m e)=>match Ka P n e with
   |none=>none
   |some r=>match decide (r.length=P.cellsOf e)&&decide (m*r.length=P.cellsOf t)with
    |true=>some (Qd2 r m)
    |false=>none
  |_=>none
theorem mapM_some{α β:Type}{f:α→Option β}:∀{l:List α} {r:List β},l.mapM f=some r→r.length=l.length∧∀(i:Nat) (x:α),l[i]? =some x→∃y,r[i]? =some y∧f x=some y
 |[],r,h=>by simp at h;subst h;simp
 |a::l,r,h=>by
  rw[List.mapM_cons]at h;cases ha:f a with
  |none=>rw[ha]at h;cases h
  |some b=>
   cases hl:l.mapM f with
   |none=>rw[ha,hl]at h;cases h
   |some bs=>
    rw[ha,hl]at h;cases h;obtain⟨g1,g2⟩:=mapM_some hl;refine⟨by simp[g1],fun i x hx=>?_⟩;cases i with
    |zero=>simp at hx;subst hx;exact⟨b,rfl,ha⟩
    |succ i=>simp at hx;simpa using g2 i x hx
theorem Zfb{w:World}{a:Addr}{n:Nat}{cs:List Value}(h:w.cells? 0 a n=some cs):cs.length=n∧∀j,j<n→∃v,cs[j]? =some v∧w.cell? (a.add j)=some v:=by unfold World.cells? at h;rw[if_pos (Nat.zero_le _)]at h;obtain⟨h1,h2⟩:=mapM_some h;exact⟨by simpa using h1,fun j hj=>h2 j j (by simp[hj])⟩
end Go.Sx
end
section
namespace Go.Sx
open Go
variable {H:Type} {enc:TypeId×Value→H} {P:Program} {w:World} {sp:Nat→Bool} {held:Bool}
theorem Qsd{α:Type}{Q:Nat→α→Prop}:∀(n:Nat),(∀i,i<n→∃x,Q i x)→∃l:List α,l.length=n∧∀(i:Nat) (x:α),l[i]? =some x→Q i x
 |0,_=>⟨[],rfl,fun i x h=>by simp at h⟩
 |n+1,h=>by
  obtain⟨l,h1,h2⟩:=Qsd n fun i hi=>h i (by omega);obtain⟨x,hx⟩:=h n (by omega);refine⟨l++[x],by simp[h1],fun i y hy=>?_⟩;rw[List.getElem?_append]at hy;split at hy
  ·exact h2 i y hy
  ·rename_i hi;have:i=n:=by have:=(List.getElem?_eq_some_iff.1 hy).1;simp at this;omega
   subst this;simp[h1]at hy;rw[←hy];exact hx
theorem Qqo{e:TypeId}:∀{l:List (DataW H)} {d:DataW H} {x:Nat},d∈l→x∈d.weights P e→x∈DataW.weightsAll P e l
 |[],d,x,h,_=>by cases h
 |y::l,d,x,h,hx=>by
  simp only[DataW.weightsAll,List.mem_append];rcases List.mem_cons.1 h with rfl|h
  ·exact .inl hx
  ·exact .inr (Qqo h hx)
theorem Zac(a:Addr)(n:Nat):(a.add n).block=a.block:=by unfold Addr.add;split<;>rfl
theorem Qzw(a:Addr)(n:Nat):(a.add n).off=a.off+n:=by
 unfold Addr.add;split
 ·rename_i h;subst h;rfl
 ·rfl
theorem Qui{cs:List Value}{fuel:Nat}{k:TypeId→Option (List Ty)}
  (ih:∀(t:TypeId) (cs:List Value) (d:DataW H) (ps:List MemPlace) (row:List Ty),DataW.trod enc P w 0 sp held fuel t cs=some (d,ps)→k t=some row→(∀x∈d.weights P t,x≤reachBytes)→∃x:Qh row,Xp w cs row x):
  ∀(fs:List Field) (off:Nat) (row:List Ty) (xs:List (DataW H×List MemPlace)),
   fs.mapM (fun f=>DataW.trod enc P w 0 sp held fuel f.type ((cs.drop f.offset).take (P.cellsOf f.type)))=some xs→Qfc P k fs off=some row→
   (∀x∈DataW.weightsEach P (fs.map (·.type)) (xs.map (·.1)),x≤reachBytes)→∃x:Qh row,Xp w ((cs.drop off).take row.length) row x
 |[],off,row,xs,h,hr,hw=>by simp only[Qfc,Option.some.injEq]at hr;subst hr;exact⟨(),by simpa using Xp.nil w⟩
 |f::fs,off,row,xs,h,hr,hw=>by
  simp only[Qfc]at hr;split at hr
  ·cases hr
  ·rename_i e1;split at hr
   ·cases hr
   ·rename_i r e2;split at hr
    ·cases hr
    ·rename_i e3;split at hr
     ·cases hr
     ·rename_i rs e4;cases hr;have e1:=of_decide_eq_true e1;have e3:=of_decide_eq_true e3;rw[List.mapM_cons]at h;cases hf:DataW.trod enc P w 0 sp held fuel f.type ((cs.drop f.offset).take (P.cellsOf f.type))with
      |none=>rw[hf]at h;cases h
      |some p=>
       cases hl:fs.mapM (fun f=>DataW.trod enc P w 0 sp held fuel f.type ((cs.drop f.offset).take (P.cellsOf f.type)))with
       |none=>rw[hf,hl]at h;cases h
       |some ps=>rw[hf,hl]at h;cases h;simp only[List.map_cons,DataW.weightsEach,List.mem_append]at hw;obtain⟨x,hx⟩:=ih f.type _ p.1 p.2 r hf e2 fun y hy=>hw y (.inl hy);obtain⟨y,hy⟩:=Qui ih fs (off+r.length) rs ps hl e4 fun y hy=>hw y (.inr hy);refine⟨Qh.app r rs x y,?_⟩;have:=hx.app hy;rw[e1,←e3]at this;rw[List.length_append,List.take_add,List.drop_drop];exact this
theorem Qzr{cs:List Value}{r:List Ty}{m:Nat}(h:∀i,i<m→∃x:Qh r,Xp w ((cs.drop (i*r.length)).take r.length) r x):
  ∀k,k≤m→∃x:Qh (Qd2 r k),Xp w ((cs.drop ((m-k)*r.length)).take (k*r.length)) (Qd2 r k) x
 |0,_=>⟨(show Qh (Qd2 r 0)from()),by show Xp w ((cs.drop _).take (0*r.length)) [] ();rw[Nat.zero_mul,List.take_zero];exact Xp.nil w⟩
 |k+1,hk=>by
  obtain⟨y,hy⟩:=Qzr h k (by omega);obtain⟨x,hx⟩:=h (m-(k+1)) (by omega);refine⟨Qh.app r (Qd2 r k) x y,?_⟩;have:=hx.app hy;have e:(m-k)*r.length=(m-(k+1))*r.length+r.length:=by rw[show m-k=m-(k+1)+1 by omega,Nat.succ_mul]
  rw[e,←List.drop_drop]at this;rw[show(k+1)*r.length=r.length+k*r.length by rw[Nat.succ_mul];omega,List.take_add];exact this
theorem Zi7{r:List Ty}{c cap:Nat}{a:Addr}{n:Nat}(hc:r.length=c)(h0:0<r.length)(hn:n≤cap)(l:List (Qh r))(hl:l.length=n)
  (h:∀(i:Nat) (x:Qh r),l[i]? =some x→∃cs,w.cells? 0 (a.add (i*c)) c=some cs∧Xp w cs r x):Zb (Wd w) (.slice (some a) n cap) (.tsl r l):=by
 refine .tsl r l ?_;by_cases hz:n=0
 ·subst hz;have:l=[]:=List.eq_nil_of_length_eq_zero hl;subst this;exact .remp a cap _
 ·have cell:∀(i j:Nat) (x:Qh r),l[i]? =some x→j<c→∃v,(Wd w).cell a.block (a.off+i*c+j)=some v∧X9 v=true∧a.add (i*c)=a.add (i*c)∧(∀p,(Za r x)[j]? =some p→Zb (Wd w) v p)∧((a.add (i*c)).add j).spot=none:=fun i j x hx hj=>by obtain⟨cs,h1,h2⟩:=h i x hx;obtain⟨g1,g2⟩:=Zfb h1;obtain⟨v,hv,hcell⟩:=g2 j hj;obtain⟨k1,k2⟩:=Zwc hcell;rw[Zac,Zac,Qzw,Qzw]at k2;exact⟨v,k2,h2.one v (List.mem_of_getElem? hv),rfl,fun p hp=>h2.rep j v p hv hp,k1⟩
  have hspot:a.spot=none:=by obtain⟨x,hx⟩:∃x,l[0]? =some x:=⟨l[0]'(by omega),by simp⟩;obtain⟨v,_,_,_,_,k⟩:=cell 0 0 x hx (by omega);simpa[Addr.add]using k
  obtain⟨b,off,s⟩:=a;cases hspot;refine .rsl b off cap r.length n (Qp r l) (by simp[hl]) hn (fun i j hi hj=>?_) (fun i row j p v hrow hp hv=>?_) (fun i row hrow=>?_)
  ·obtain⟨x,hx⟩:∃x,l[i]? =some x:=⟨l[i]'(by simpa using hi),by simp⟩;obtain⟨v,k1,k2,_⟩:=cell i j x hx (by omega);rw[←hc]at k1;exact⟨v,k1,k2⟩
  ·simp only[List.getElem?_map,Option.map_eq_some_iff]at hrow;obtain⟨x,hx,rfl⟩:=hrow;have hj:j<c:=by have:=(List.getElem?_eq_some_iff.1 hp).1;rw[Wf]at this;omega
   obtain⟨v',k1,k2,_,k3,_⟩:=cell i j x hx hj;rw[←hc]at k1;rw[k1]at hv;cases hv;exact k3 p hp
  ·simp only[List.getElem?_map,Option.map_eq_some_iff]at hrow;obtain⟨x,hx,rfl⟩:=hrow;rw[Wf];exact Nat.le_refl _
theorem Qlf:∀(fuel n:Nat) (t:TypeId) (cs:List Value) (d:DataW H) (ps:List MemPlace) (row:List Ty),DataW.trod enc P w 0 sp held fuel t cs=some (d,ps)→Ka P n t=some row→
  (∀x∈d.weights P t,x≤reachBytes)→∃x:Qh row,Xp w cs row x
 |0,n,t,cs,d,ps,row,h,hr,hw=>by simp[DataW.trod]at h
 |fuel+1,0,t,cs,d,ps,row,h,hr,hw=>by simp[Ka]at hr
 |fuel+1,n+1,t,cs,d,ps,row,h,hr,hw=>by
  have ih:=Qlf fuel n;unfold Ka at hr;split at hr
  ·rename_i hu;cases hr;obtain⟨b,rfl,rfl⟩:∃b,cs=[.bool b]∧d=.lit (.bool b):=by unfold DataW.trod at h;rw[hu]at h;split at h<;>first|(cases h;done)|(rename_i heq;cases heq;done)|(cases h;exact⟨_,rfl,rfl⟩)
   exact⟨b,.single rfl (.lit _) trivial⟩
  ·rename_i k hu;cases hr;obtain⟨v,rfl,hv⟩:∃v:Int,cs=[.int k v]∧(k.min≤v∧v≤k.max):=by
    unfold DataW.trod at h;rw[hu]at h;split at h<;>first|(cases h;done)|(rename_i heq;cases heq;done)|skip
    ·rename_i heq;cases heq;split at h
     ·rename_i hk;obtain⟨rfl,hwf⟩:=hk;simp only[Lit.wf,Bool.and_eq_true,decide_eq_true_eq]at hwf;exact⟨_,rfl,hwf⟩
     ·cases h
   exact⟨v,.single rfl (.lit _) hv⟩
  ·rename_i hu;cases hr;obtain⟨b,rfl,rfl⟩:∃b,cs=[.string b]∧d=.lit (.string b.data.toList):=by
    unfold DataW.trod at h;rw[hu]at h;split at h<;>first|(cases h;done)|(rename_i heq;cases heq;done)|skip
    ·split at h
     ·cases h;exact⟨_,rfl,rfl⟩
     ·cases h
   refine⟨b,.single rfl (.lit _) ?_⟩;have:=hw b.data.toList.length (by simp[DataW.weights]);simp only[reachBytes]at this;simpa[Qx3,Ty.ok]using this
  ·rename_i e hu;split at hr
   ·cases hr
   ·rename_i r hrk;split at hr
    ·rename_i hcond;cases hr;simp only[Bool.and_eq_true,decide_eq_true_eq]at hcond;obtain⟨hc,h0,hby⟩:=hcond;have fin:∀(v:Value) (l:List (Qh r)),Zb (Wd w) v (.tsl r l)→X9 v=true→l.length*Qrv r≤140737488351232→(∀x∈l,Qh.ok r x)→∃x:Qh [.seq r],Xp w [v] [.seq r] x:=
      fun v l hp h1 h2 h3=>⟨l,.single h1 hp ⟨h2,h3⟩⟩
     unfold DataW.trod at h;rw[hu]at h;split at h<;>first|(cases h;done)|(rename_i heq;cases heq;done)|skip
     ·exact fin _ [] (.tsl r [] (.rnil _)) rfl (by simp) (fun x hx=>by cases hx)
     ·rename_i a len cap heq;cases heq;simp only[]at h;split at h
      ·rename_i hlc;obtain⟨elems,he,h⟩:=Option.bind_eq_some_iff.1 h;obtain⟨rest,hre,h⟩:=Option.map_eq_some_iff.1 h;cases h;obtain⟨g1,g2⟩:=mapM_some he;have hwt:∀x∈DataW.weightsAll P e (elems.map (·.1)),x≤reachBytes:=fun x hx=>hw x (by simp only[DataW.weights,hu,List.mem_cons,List.mem_append];exact .inr (.inl hx));have hlen:elems.length=len:=by simpa using g1
       have elt:∀i,i<len→∃x:Qh r,∃cs,w.cells? 0 (a.add (i*P.cellsOf e)) (P.cellsOf e)=some cs∧Xp w cs r x:=fun i hi=>by obtain⟨y,hy,hf⟩:=g2 i i (by simp[hi]);obtain⟨cs,h1,h2⟩:=Option.bind_eq_some_iff.1 hf;obtain⟨x,hx⟩:=ih e cs y.1 y.2 r h2 hrk fun z hz=>hwt z (Qqo (List.mem_map.2 ⟨y,List.mem_of_getElem? hy,rfl⟩) hz);exact⟨x,cs,h1,hx⟩
       obtain⟨l,hl,hq⟩:=Qsd len elt;have hbound:=hw ((elems.map (·.1)).length+(rest.map (·.1)).length |> (·*P.bytesOf e)) (by simp only[DataW.weights,hu,List.mem_cons];exact .inl trivial);simp only[List.length_map,reachBytes,hlen]at hbound;refine fin _ l (Zi7 hc h0 hlc.2.1 l hl hq) rfl ?_ (fun x hx=>?_)
       ·rw[hl];refine Nat.le_trans (Nat.mul_le_mul_left _ hby) (Nat.le_trans (Nat.mul_le_mul_right _ (Nat.le_add_right _ _)) hbound)
       ·obtain⟨i,hi⟩:=List.getElem?_of_mem hx;obtain⟨cs,_,hrd⟩:=hq i x hi;exact hrd.ok
      ·cases h
    ·cases hr
  ·rename_i fs hu;split at hr
   ·cases hr
   ·rename_i r hrk;split at hr
    ·rename_i hcond;cases hr;have hcond:=of_decide_eq_true hcond;unfold DataW.trod at h;rw[hu]at h;split at h<;>first|(cases h;done)|(rename_i heq;cases heq;done)|skip
     ·rename_i heq;cases heq;split at h
      ·rename_i hl;obtain⟨xs,hx,h⟩:=Option.map_eq_some_iff.1 h;cases h;obtain⟨x,hrd⟩:=Qui ih fs.toList 0 row xs hx hrk fun y hy=>hw y (by simp only[DataW.weights,hu];exact hy);refine⟨x,?_⟩;rw[List.drop_zero,List.take_of_length_le (by omega)]at hrd;exact hrd
      ·cases h
     ·exact(‹∀fs':Array Field,some (TypeDesc.struct fs)=some (TypeDesc.struct fs')→False› fs rfl).elim
    ·cases hr
  ·rename_i m e hu;split at hr
   ·cases hr
   ·rename_i r hrk;split at hr
    ·rename_i hcond;cases hr;simp only[Bool.and_eq_true,decide_eq_true_eq]at hcond;unfold DataW.trod at h;rw[hu]at h;split at h<;>first|(cases h;done)|(rename_i heq;cases heq;done)|skip
     ·rename_i heq;cases heq;split at h
      ·rename_i hl;obtain⟨xs,hx,h⟩:=Option.map_eq_some_iff.1 h;cases h;obtain⟨g1,g2⟩:=mapM_some hx;have hwt:∀x∈DataW.weightsAll P e (xs.map (·.1)),x≤reachBytes:=fun x hx=>hw x (by simp only[DataW.weights,hu];exact hx);obtain⟨x,hrd⟩:=Qzr (w:=w) (cs:=_) (r:=r) (m:=m) (fun i hi=>by obtain⟨y,hy,hf⟩:=g2 i i (by simp[hi]);rw[←hcond.1]at hf;exact ih e _ y.1 y.2 r hf hrk fun z hz=>hwt z (Qqo (List.mem_map.2 ⟨y,List.mem_of_getElem? hy,rfl⟩) hz)) m (Nat.le_refl _);refine⟨x,?_⟩;rw[Nat.sub_self,Nat.zero_mul,List.drop_zero,List.take_of_length_le (by omega)]at hrd;exact hrd
      ·cases h
     ·exact(‹∀(n:Nat) (e':TypeId),some (TypeDesc.array m e)=some (TypeDesc.array n e')→False› m e rfl).elim
    ·cases hr
  ·cases hr
end Go.Sx
end
section
namespace Go.Sx
open Go
def Qf.ok:(a:Qf)→a.El→Prop
 |.val t=>t.ok
 |.agg row=>Qh.ok row
def Qw.ok:(l:List Qf)→Qw l→Prop
 |[]=>fun _=>True
 |[a]=>a.ok
 |a::a'::l=>fun x=>a.ok x.1∧Qw.ok (a'::l) x.2
def Qpd(P:Program)(t:TypeId):Option Qf:=match P.underlying t with
 |some (.struct _)=>match Ka P 12 t with
  |some r=>some (.agg r)
  |none=>none
 |some (.array _ _)=>match Ka P 12 t with
  |some r=>some (.agg r)
  |none=>none
 |some _=>match Ka P 12 t with
  |some [ty]=>some (.val ty)
  |_=>none
 |none=>none
def Qbf(P:Program):List TypeId→Option (List Qf)
 |[]=>some []
 |t::ts=>match Qpd P t with
  |none=>none
  |some a=>match Qbf P ts with
   |none=>none
   |some l=>some (a::l)
theorem Zb0{w:World}{cs:List Value}{row:List Ty}{x:Qh row}(h:Xp w cs row x):Qd (Wd w) Xz (.agg cs.toArray) (SV.Y3 ((Za row x).map .pv)):=by refine Qd.Y3 (by rw[h.len,List.length_map,Wf]) fun i v y hv hy=>?_;simp only[List.getElem?_map,Option.map_eq_some_iff]at hy;obtain⟨p,hp,rfl⟩:=hy;exact .pv (h.rep i v p hv hp)
section
variable {H:Type} {enc:TypeId×Value→H} {P:Program} {w:World} {sp:Nat→Bool} {held:Bool} {r:Reach} {b0:Nat}
theorem Zvr{t:TypeId}{v:Value}{u:TypeDesc}(hu:P.underlying t=some u)(hs:u=.bool∨(∃k,u=.int k)∨u=.string∨∃e,u=.slice e)(hval:Value.okWide P w r b0 t v):v.cells.toList=[v]:=by
 cases v with
 |agg cs=>rcases hs with rfl|⟨k,rfl⟩|rfl|⟨e,rfl⟩<;>simp[Value.okWide,Cell.okWide,Cell.ok,hu]at hval
 |_=>rfl
theorem Zlv{t:TypeId}{a:Qf}{v:Value}{d:DataW H}{ps:List MemPlace}(hk:Qpd P t=some a)(hval:Value.okWide P w r b0 t v)(hd:DataW.Trod enc P w 0 sp held t v d ps)(hw:∀x∈d.weights P t,x≤reachBytes):
  ∃x:a.El,Qd (Wd w) Xz v (a.sv x)∧a.ok x:=by
 obtain⟨fuel,hf⟩:=hd;unfold Qpd at hk;split at hk
 ·rename_i fs hu;split at hk
  ·rename_i row hrow;cases hk;obtain⟨x,hx⟩:=Qlf fuel 12 t _ d ps row hf hrow hw;obtain⟨cs,rfl,hsz⟩:∃cs,v=.agg cs∧cs.size=P.cellsOf t:=by simp only[Value.okWide,hu]at hval;obtain⟨cs,h1,h2,_⟩:=hval;exact⟨cs,h1,h2⟩
   have:=Zb0 hx;simp only[Value.cells,Array.toArray_toList]at this;exact⟨x,this,hx.ok⟩
  ·cases hk
 ·rename_i m e hu;split at hk
  ·rename_i row hrow;cases hk;obtain⟨x,hx⟩:=Qlf fuel 12 t _ d ps row hf hrow hw;obtain⟨cs,rfl,hsz⟩:∃cs,v=.agg cs∧cs.size=P.cellsOf t:=by simp only[Value.okWide,hu]at hval;obtain⟨cs,h1,h2,_⟩:=hval;exact⟨cs,h1,h2⟩
   have:=Zb0 hx;simp only[Value.cells,Array.toArray_toList]at this;exact⟨x,this,hx.ok⟩
  ·cases hk
 ·rename_i u h1 h2 hu;split at hk
  ·rename_i ty hrow;cases hk;obtain⟨x,hx⟩:=Qlf fuel 12 t _ d ps [ty] hf hrow hw;have hs:u=.bool∨(∃k,u=.int k)∨u=.string∨∃e,u=.slice e:=by
    unfold Ka at hrow;rw[hu]at hrow;cases u with
    |bool=>exact .inl rfl
    |int k=>exact .inr (.inl ⟨k,rfl⟩)
    |string=>exact .inr (.inr (.inl rfl))
    |slice e=>exact .inr (.inr (.inr ⟨e,rfl⟩))
    |struct fs=>exact(h1 fs rfl).elim
    |array m e=>exact(h2 m e rfl).elim
    |_=>simp at hrow
   rw[Zvr hu hs hval]at hx;exact⟨x,.pv (hx.rep 0 v _ rfl rfl),hx.ok⟩
  ·cases hk
 ·cases hk
theorem Qze:∀{ts:List TypeId} {vs:List Value} {ds:List (DataW H)} {ps:List MemPlace} {ats:List Qf},DataW.TrodAll enc P w 0 sp held ts vs ds ps→Qbf P ts=some ats→
  (∀(j:Nat) t v,ts[j]? =some t→vs[j]? =some v→Value.okWide P w r b0 t v)→(∀x∈DataW.weightsEach P ts ds,x≤reachBytes)→∃a:Qw ats,Xn (Wd w) Xz vs (Z5 ats a)∧Qw.ok ats a
 |[],vs,ds,ps,ats,h,hk,hval,hw=>by simp only[Qbf,Option.some.injEq]at hk;subst hk;cases vs<;>cases ds<;>simp[DataW.TrodAll]at h;exact⟨(),⟨rfl,fun i v x hv=>by simp at hv⟩,trivial⟩
 |t::ts,vs,ds,ps,ats,h,hk,hval,hw=>by
  obtain⟨v,vs',d,ds',p,q,rfl,rfl,rfl,h1,h2⟩:=ChangeShapes.trodAll_cons h;simp only[Qbf]at hk;split at hk
  ·cases hk
  ·rename_i a ha;split at hk
   ·cases hk
   ·rename_i l hl;cases hk;simp only[DataW.weightsEach,List.mem_append]at hw;obtain⟨x,hx,hxo⟩:=Zlv ha (hval 0 t v rfl rfl) h1 fun y hy=>hw y (.inl hy);obtain⟨y,hy,hyo⟩:=Qze h2 hl (fun j t' v' h1 h2=>hval (j+1) t' v' (by simpa using h1) (by simpa using h2)) fun y hy=>hw y (.inr hy);have cons:∀(i:Nat) (u:Value) (z:SV) (zs:List SV),zs=Z5 l y→(v::vs')[i]? =some u→(a.sv x::zs)[i]? =some z→Qd (Wd w) Xz u z:=fun i u z zs e hu hz=>by
     subst e;cases i with
     |zero=>simp at hu hz;subst hu;subst hz;exact hx
     |succ i=>exact hy.2 i u z (by simpa using hu) (by simpa using hz)
    have hlen:vs'.length=(Z5 l y).length:=hy.1;match l,y,hyo,cons,hlen with
    |[],y,hyo,cons,hlen=>exact⟨x,⟨by simpa[Z5]using hlen,fun i u z hu hz=>cons i u z _ rfl hu hz⟩,hxo⟩
    |b::l,y,hyo,cons,hlen=>exact⟨(x,y),⟨by simp[Z5,hlen],fun i u z hu hz=>cons i u z _ rfl hu hz⟩,⟨hxo,hyo⟩⟩
end
end Go.Sx
end
section
namespace Go.Sx
open Go Go.ChangeShapes Go.WideShapes Go.RowKit
section
variable {H:Type} {enc:TypeId×Value→H} {P:Program}
theorem Qv0(hl:laidOutB P=true){W W':World}{sp:Nat→Bool}:∀{ts:List TypeId} {vs:List Value} {ds:List (DataW H)} {ps:List MemPlace},
  (ts.all fun t=>P.readableRec t&&decide (t<P.types.size))=true→DataW.TrodAll enc P W 0 (fun _=>true) true ts vs ds ps→(∀p∈ps,W.sameAt W' p)→(∀p∈ps,sp p.block=true)→DataW.TrodAll enc P W' 0 sp true ts vs ds ps
 |[],vs,ds,ps,_,h,_,_=>by cases vs<;>cases ds<;>simp[DataW.TrodAll]at h⊢;exact h
 |t::ts,vs,ds,ps,ht,h,hs,hb=>by
  obtain⟨v,vs',d,ds',p,q,rfl,rfl,rfl,h1,h2⟩:=trodAll_cons h;simp only[List.all_cons,Bool.and_eq_true,decide_eq_true_eq]at ht;exact⟨p,q,WideElems.Trod_stays hl ht.1.1 ht.1.2 h1 (fun x hx=>hs x (List.mem_append_left _ hx)) (fun x hx=>hb x (List.mem_append_left _ hx)),
   Qv0 hl ht.2 h2 (fun x hx=>hs x (List.mem_append_right _ hx)) (fun x hx=>hb x (List.mem_append_right _ hx)),rfl⟩
theorem Qwc{W:World}{b:Nat}{sp:Nat→Bool}{hd:Bool}:∀{ts:List TypeId} {vs:List Value} {ds:List (DataW H)} {ps:List MemPlace},DataW.TrodAll enc P W b sp hd ts vs ds ps→ds.length=ts.length
 |[],vs,ds,ps,h=>by cases vs<;>cases ds<;>simp[DataW.TrodAll]at h⊢
 |t::ts,vs,ds,ps,h=>by obtain⟨v,vs',d,ds',p,q,rfl,rfl,rfl,h1,h2⟩:=trodAll_cons h;simp[Qwc h2]
theorem Zyq{cx:Cx}{f:FuncId}{fn:Func}{s:ChangeSpec}{ats:List Qf}{c:Nat→Qw ats→Option Bool}{tb:TypeId}
  (hl:laidOutB cx.P=true) (hps:(fn.params.toList.all fun t=>cx.P.readableRec t&&decide (t<cx.P.types.size))=true) (hk:Qbf cx.P fn.params.toList=some ats)
  (hres:fn.resultTypes= #[tb]) (htb:cx.P.underlying tb=some .bool) (hvars:s.vars=[]) (hspec:∀ds:List (DataW H),ds.length=fn.params.toList.length→s.fn H ds={results:=[.lit (.bool true)],args:=ds})
  (hpc:∀F,Qg cx f ⟨ats,[.val .bool],c F⟩) (law:∀a,Qw.ok ats a→∃F,c F a=some true)
  {W:World} {base:Nat} {args:Array Value} {ds gs:List (DataW H)} {before:List MemPlace} {hn:Bool}
  (hval:∀(j:Nat) t v,fn.params[j]? =some t→args[j]? =some v→Value.okWide cx.P W .any base t v)
  (hW:DataW.Whole enc cx.P fn.params.toList s.vars false W args.toList ds gs before)
  (hwt:(DataW.weightsEach cx.P (fn.params.toList++s.plain.varTypes cx.P) (ds++gs)).all (·≤reachBytes)=true):
  Calls cx.P f args W fun e W'=>∃v,e=.returned v∧s.post enc cx.P fn false true hn false W args v W':=by
 have hW':=hW;obtain⟨p,q,hA,hV,rfl,hfz,hnd⟩:=hW;rw[hvars]at hV;obtain⟨rfl,rfl⟩:gs=[]∧q=[]:=by
  cases gs with
  |nil=>exact⟨rfl,hV⟩
  |cons g r=>exact absurd hV (by intro h;cases h)
 have hlen:=Qwc hA;have hw:∀x∈DataW.weightsEach cx.P fn.params.toList ds,x≤reachBytes:=by
  have happ:∀(ts:List TypeId) (ds:List (DataW H)) (us:List TypeId),ds.length=ts.length→DataW.weightsEach cx.P (ts++us) ds=DataW.weightsEach cx.P ts ds:=by
   intro ts;induction ts with
   |nil=>intro ds us h;cases ds with
    |nil=>cases us<;>rfl
    |cons _ _=>simp at h
   |cons t ts ih=>intro ds us h;cases ds with
    |nil=>simp at h
    |cons d ds=>simp only[List.cons_append,DataW.weightsEach];rw[ih ds us (by simpa using h)]
  rw[List.append_nil,happ _ _ _ hlen]at hwt;intro x hx;have:=List.all_eq_true.1 hwt x hx;simpa using this
 obtain⟨a,hr,ho⟩:=Qze hA hk (fun j t v h1 h2=>hval j t v (by simpa using h1) (by simpa using h2)) hw;obtain⟨F,hF⟩:=law a ho;have hcall:=(hpc F).ok a true hF (Wd W) Xz W args.toList (Qfp fun b o h=>h) hr;rw[Array.toArray_toList]at hcall;refine(callsIn_wide.1 hcall).mono fun e W' ⟨v,r,H',M',ρ',tch,fg,he,⟨hr',_⟩,hx,hm,hf⟩=>?_;subst hr';have hv:v=.bool true:=Qd.Q7 (show Qd M' ρ' v (.pv (.lit (.bool true)))from hx);subst hv;have hsame:∀b,b<W.heap.size→W'.heap[b]? =W.heap[b]? :=fun b hb=>hf.same b hb K2;refine⟨_,he,ds,[],p++[],[],p,[],hW',?_,?_,?_,?_,fun h=>by cases h⟩
 ·rw[List.append_nil,hspec ds hlen,hres];exact trodAll_mk1 (shut_bool htb true)
 ·rw[List.append_nil,hspec ds hlen];refine Qv0 hl hps hA (fun x hx=>?_) (fun x hx=>?_)
  ·have hlt:=hW'.lt x (by simpa using hx);cases x with
   |cell b off=>simp only[World.sameAt,World.cell?];rw[hsame b hlt]
   |map b=>exact hsame b hlt
  ·exact decide_eq_true (hW'.lt x (by simpa using hx))
 ·rw[List.append_nil,hspec ds hlen,hvars];rfl
 ·refine⟨hf.io.1,hf.io.2,fun i hi=>?_⟩;rw[hsame i hi];split
  ·rename_i h1 h2;rw[h1]at h2;cases h2;exact⟨rfl,rfl,rfl,fun _ _=>rfl⟩
  ·rename_i h1 h2;rw[h1]at h2;cases h2;exact .inr ⟨rfl,rfl⟩
  ·rfl
end
end Go.Sx
end
namespace Go.Sx
open Go
theorem Z2{X:Type}(x:Option X):gd true x=x:=rfl
theorem Zw7{X:Type}{c:Bool}{x:Option X}(h:c=true):gd c x=x:=by rw[h];rfl
theorem Zi{X:Type}{p:Prop}[Decidable p]{x:Option X}(h:p):gd (decide p) x=x:=Zw7 (decide_eq_true h)
theorem Qgh{σ β:Type}{step:σ→Option (σ ⊕ β)}(Inv:σ→Prop)(m:σ→Nat)(Qn:β→Prop)
  (h:∀x,Inv x→(∃y,step x=some (.inl y)∧Inv y∧m y<m x)∨∃b,step x=some (.inr b)∧Qn b):∀(F:Nat) (x:σ),Inv x→m x<F→∃b,Qu step F x=some b∧Qn b
 |0,x,_,hF=>by omega
 |F+1,x,hx,hF=>by
  rcases h x hx with⟨y,h1,h2,h3⟩|⟨b,h1,h2⟩
  ·simp only[Qu,h1];exact Qgh Inv m Qn h F y h2 (by omega)
  ·simp only[Qu,h1];exact⟨b,rfl,h2⟩
def goL{α S β:Type}(body:α→S→S ⊕ β)(fin:S→β):List α→S→β
 |[],s=>fin s
 |x::l,s=>match body x s with
  |.inl s'=>goL body fin l s'
  |.inr b=>b
theorem Qw7{α S β:Type}(body:α→S→S ⊕ β)(fin:S→β)(s:S):goL body fin [] s=fin s:=rfl
theorem Qgd{α S β:Type}(body:α→S→S ⊕ β)(fin:S→β)(x:α)(l:List α)(s:S):goL body fin (x::l) s=match body x s with
  |.inl s'=>goL body fin l s'
  |.inr b=>b:=rfl
def Qdt{S σ β β':Type}(R:S→σ→Prop)(Q:β'→β→Prop):S ⊕ β'→σ ⊕ β→Prop
 |.inl s,.inl t=>R s t
 |.inr b,.inr b'=>Q b b'
 |_,_=>False
theorem Qo3{α S σ β β':Type}{step:σ→Option (σ ⊕ β)}(l:List α)(body:α→S→S ⊕ β')(fin:S→β')(R:Nat→S→σ→Prop)(Q:β'→β→Prop)
  (hstep:∀i x s t,i<l.length→l[i]? =some x→R i s t→∃r,step t=some r∧Qdt (R (i+1)) Q (body x s) r)
  (hend:∀s t,R l.length s t→∃b',step t=some (.inr b')∧Q (fin s) b'):
  ∀(F i:Nat) (s:S) (t:σ),i≤l.length→R i s t→l.length-i<F→∃b',Qu step F t=some b'∧Q (goL body fin (l.drop i) s) b'
 |0,i,s,t,hi,hR,hF=>by omega
 |F+1,i,s,t,hi,hR,hF=>by
  by_cases h:i<l.length
  ·obtain⟨r,h1,h2⟩:=hstep i l[i] s t h (List.getElem?_eq_getElem h) hR;rw[List.drop_eq_getElem_cons h,Qgd];cases hb:body l[i] s with
   |inl s'=>
    rw[hb]at h2;cases r with
    |inl t'=>simp only[Qu,h1];exact Qo3 l body fin R Q hstep hend F (i+1) s' t' h h2 (by omega)
    |inr b'=>exact h2.elim
   |inr b=>
    rw[hb]at h2;cases r with
    |inl t'=>exact h2.elim
    |inr b'=>simp only[Qu,h1];exact⟨b',rfl,h2⟩
  ·obtain rfl:i=l.length:=by omega
   rw[List.drop_length,Qw7];obtain⟨b',ht,hQ⟩:=hend s t hR;simp only[Qu,ht];exact⟨b',rfl,hQ⟩
theorem Qpx{α S σ β β' γ:Type}{step:σ→Option (σ ⊕ β)}{F:Nat}{t:σ}{k:β→Option γ}{P:γ→Prop}(l:List α)(body:α→S→S ⊕ β')(fin:S→β')(R:Nat→S→σ→Prop)(Q:β'→β→Prop)(s:S)
  (hF:l.length<F) (h0:R 0 s t)
  (hstep:∀i x s t,i<l.length→l[i]? =some x→R i s t→∃r,step t=some r∧Qdt (R (i+1)) Q (body x s) r)
  (hend:∀s t,R l.length s t→∃b',step t=some (.inr b')∧Q (fin s) b')
  (hk:∀b',Q (goL body fin l s) b'→∃r,k b'=some r∧P r):∃r,Option.bind (Qu step F t) k=some r∧P r:=by
 obtain⟨b',h1,h2⟩:=Qo3 l body fin R Q hstep hend F 0 s t (Nat.zero_le _) h0 (by omega);rw[h1];exact hk b' h2
theorem Zrt{γ:Type}{o:Option γ}{r:γ}(h:∃x,o=some x∧x=r):o=some r:=by obtain⟨x,h1,h2⟩:=h;rw[h1,h2]
theorem Zdx{α S σ β:Type}{step:σ→Option (σ ⊕ β)}(l:List α)(enc:S→Nat→σ)(body:α→S→S ⊕ β)(fin:S→β)(I:Nat→S→Prop)
  (hstep:∀i x s,i<l.length→l[i]? =some x→I i s→step (enc s i)=some (match body x s with|.inl s'=>.inl (enc s' (i+1))|.inr b=>.inr b)∧∀s',body x s=.inl s'→I (i+1) s')
  (hend:∀s,I l.length s→step (enc s l.length)=some (.inr (fin s))) {F:Nat} {s:S} {t:σ} (ht:t=enc s 0) (hI:I 0 s) (hF:l.length<F):Qu step F t=some (goL body fin l s):=by
 obtain⟨b,h1,h2⟩:=Qo3 (step:=step) l body fin (fun i s t=>t=enc s i∧I i s) (fun a b=>a=b)
  (fun i x s t hi hx ⟨e,h⟩=>by
   obtain⟨h1,h2⟩:=hstep i x s hi hx h;subst e;refine⟨_,h1,?_⟩;cases hb:body x s with
   |inl s'=>exact⟨rfl,h2 s' hb⟩
   |inr b=>exact rfl)
  (fun s t ⟨e,h⟩=>by subst e;exact⟨_,hend s h,rfl⟩) F 0 s t (Nat.zero_le _) ⟨ht,hI⟩ (by omega)
 rw[h1,←h2];rfl
theorem Jn{α S σ β γ:Type}{step:σ→Option (σ ⊕ β)}{F:Nat}{t:σ}{k:β→Option γ}{r:Option γ}(l:List α)(enc:S→Nat→σ)(body:α→S→S ⊕ β)(fin:S→β)(I:Nat→S→Prop)(s:S)
  (hF:l.length<F) (ht:t=enc s 0) (hI:I 0 s)
  (hstep:∀i x s,i<l.length→l[i]? =some x→I i s→step (enc s i)=some (match body x s with|.inl s'=>.inl (enc s' (i+1))|.inr b=>.inr b)∧∀s',body x s=.inl s'→I (i+1) s')
  (hend:∀s,I l.length s→step (enc s l.length)=some (.inr (fin s)))
  (hk:k (goL body fin l s)=r):Option.bind (Qu step F t) k=r:=by
 rw[Zdx l enc body fin I hstep hend ht hI hF];exact hk
theorem Qb8{α S β:Type}(f:S→α→S)(fin:S→β):∀(l:List α) (s:S),goL (fun x s=>.inl (f s x)) fin l s=fin (l.foldl f s)
 |[],s=>rfl
 |x::l,s=>Qb8 f fin l (f s x)
theorem Zl2{α β:Type}(r:β)(l:List α):goL (fun(_:α) (_:Unit)=>(Sum.inl ():Unit ⊕ β)) (fun _=>r) l ()=r:=by rw[Qb8 (fun _ _=>())]
theorem Qce{α β:Type}(p:α→Bool)(b1 b2:β):∀(l:List α),goL (fun x (_:Unit)=>if p x=true then .inr b1 else .inl ()) (fun _=>b2) l ()=if l.any p=true then b1 else b2
 |[]=>rfl
 |x::l=>by
  rw[Qgd,List.any_cons];cases h:p x with
  |true=>simp
  |false=>simpa using Qce p b1 b2 l
theorem Qcw{α γ β:Type}(f:α→γ)(fin:List γ→β):∀(l:List α) (out:List γ),goL (fun x out=>.inl (out++[f x])) fin l out=fin (out++l.map f)
 |[],out=>by simp[Qw7]
 |x::l,out=>by rw[Qgd];simp[Qcw f fin l]
theorem Zk{X:Type}{p:Prop}[Decidable p]{a b:X}(h:p):cond (decide p) a b=a:=by simp[h]
theorem Zf{X:Type}{p:Prop}[Decidable p]{a b:X}(h:¬p):cond (decide p) a b=b:=by simp[h]
theorem getD_some{α:Type}{l:List α}{i:Nat}{x d:α}(h:l[i]? =some x):l.getD i d=x:=by rw[List.getD_eq_getElem?_getD,h];rfl
def Zjw{β:Type}(good:Prop)(Q:β→Prop)(i:Nat)(r:Int ⊕ β):Prop:=(r=.inl ((i:Int)+1)∧good)∨∃b,r=.inr b∧Q b
theorem Qbn{α β γ:Type}{step:Int→Option (Int ⊕ β)}{F:Nat}{k:β→Option γ}{P:γ→Prop}(l:List α)(good:α→Prop)(Q:β→Prop)(hF:l.length<F)
  (hstep:∀(i:Nat) x,i<l.length→l[i]? =some x→∃r,step (i:Int)=some r∧Zjw (good x) Q i r)
  (hend:(∀x∈l,good x)→∃b,step (l.length:Int)=some (.inr b)∧Q b)
  (hk:∀b,Q b→∃r,k b=some r∧P r):∃r,Option.bind (Qu step F 0) k=some r∧P r:=by
 obtain⟨b,h1,h2⟩:=Qgh (step:=step) (fun v:Int=>0≤v∧v≤l.length∧∀x∈l.take v.toNat,good x) (fun v=>l.length-v.toNat) Q (by
  intro v ⟨h0,h1,h2⟩;by_cases hv:v<l.length
  ·have hk:v.toNat<l.length:=by omega
   have hx:=List.getElem?_eq_getElem hk;have ev:((v.toNat:Nat):Int)=v:=by omega
   obtain⟨r,hs,hr⟩:=hstep v.toNat _ hk hx;rw[ev]at hs;rcases hr with⟨rfl,hg⟩|⟨b,rfl,hb⟩
   ·left;rw[ev]at hs;refine⟨v+1,hs,⟨by omega,by omega,?_⟩,by omega⟩;rw[show(v+1).toNat=v.toNat+1 by omega,List.take_add_one,hx];intro y hy;rcases List.mem_append.1 hy with hy|hy
    ·exact h2 y hy
    ·obtain rfl:=List.mem_singleton.1 hy;exact hg
   ·exact .inr ⟨b,hs,hb⟩
  ·have ev:v=l.length:=by omega
   subst ev;right;refine hend ?_;simpa using h2) F 0 ⟨by omega,by omega,by simp⟩ (by simpa using hF)
 rw[h1];exact hk b h2
theorem Zb4{α:Type}{l:List α}{i:Nat}(h:i≤l.length):(l.take i).length=i:=by rw[List.length_take];omega
theorem Qxj{α:Type}{P R:List α}{n m:α}{i:Nat}(h:P.length=i):(P++n::R).set i m=P++m::R:=by subst h;rw[List.set_append_right _ _ (Nat.le_refl _)];simp
theorem Qxz{α:Type}{P R:List α}{n d:α}{i:Nat}(h:P.length=i):(P++n::R).getD i d=n:=by subst h;rw[List.getD_eq_getElem?_getD,List.getElem?_append_right (Nat.le_refl _)];simp
theorem Zbh{α β:Type}(p:α→Bool)(val:Nat→β)(nil:β):∀(l:List α) (k:Nat),goL (fun x (s:Nat)=>if p x=true then .inr (val s)else .inl (s+1)) (fun _=>nil) l k=match l.findIdx? p with
  |some i=>val (k+i)
  |none=>nil
 |[],k=>rfl
 |x::l,k=>by
  rw[Qgd,List.findIdx?_cons];by_cases h:p x=true
  ·simp[h]
  ·simp only[h,Bool.false_eq_true,if_false];rw[Zbh p val nil l (k+1)];cases l.findIdx? p with
   |none=>rfl
   |some i=>simp only[Option.map_some];rw[Nat.add_assoc,Nat.add_comm 1 i]
theorem Zwf{α β γ:Type}{step:Int→Option (Int ⊕ β)}{F:Nat}{k:β→Option γ}{r:Option γ}(l:List α)(p:α→Bool)(val:Nat→β)(nil:β)(hF:l.length<F)
  (hstep:∀(i:Nat) x,i<l.length→l[i]? =some x→step (i:Int)=some (if p x=true then .inr (val i)else .inl ((i:Int)+1)))
  (hend:step (l.length:Int)=some (.inr nil))
  (hk:k (match l.findIdx? p with|some i=>val i|none=>nil)=r):Option.bind (Qu step F 0) k=r:=by
 refine Jn l (fun(_:Nat) i=>(i:Int)) (fun x (s:Nat)=>if p x=true then .inr (val s)else .inl (s+1)) (fun _=>nil) (fun i s=>s=i) 0 hF rfl rfl ?_ ?_ ?_
 ·intro i x s hi hx hs;subst hs;rw[hstep s x hi hx];by_cases h:p x=true
  ·simp[h]
  ·simp[h]
 ·intro s hs;exact hend
 ·rw[Zbh p val nil l 0];rw[←hk];cases l.findIdx? p with
  |none=>rfl
  |some i=>simp
theorem Qk4{K V:Type}{eq:K→K→Bool}{k:K}:∀(l:List (K×V)) (n:Nat),Y6 eq k l n=(Y6 eq k l 0).map fun p=>(n+p.1,p.2)
 |[],n=>rfl
 |e::l,n=>by
  simp only[Y6];cases eq k e.1 with
  |true=>simp
  |false=>
   simp only[];rw[Qk4 l (n+1),Qk4 l (0+1)];cases Y6 eq k l 0 with
   |none=>rfl
   |some p=>simp;omega
theorem Qmf{K V:Type}{eq:K→K→Bool}{k:K}{z:V}:Zz eq k [] z=z:=rfl
theorem Qfx{K V:Type}{eq:K→K→Bool}{k:K}{e:K×V}{l:List (K×V)}{z:V}:Zz eq k (e::l) z=if eq k e.1=true then e.2 else Zz eq k l z:=by
 unfold Zz;simp only[Y6];cases eq k e.1 with
 |true=>simp
 |false=>
  simp only[];rw[Qk4 l (0+1)];cases Y6 eq k l 0 with
  |none=>simp
  |some p=>simp
theorem Zdn{K V:Type}{eq:K→K→Bool}{k:K}{x:V}:Yy eq k x []=[(k,x)]:=rfl
theorem Ztd{K V:Type}{eq:K→K→Bool}{k:K}{x:V}{e:K×V}{l:List (K×V)}:Yy eq k x (e::l)=if eq k e.1=true then(k,x)::l else e::Yy eq k x l:=by
 unfold Yy;simp only[Y6];cases eq k e.1 with
 |true=>simp
 |false=>
  simp only[];rw[Qk4 l (0+1)];cases Y6 eq k l 0 with
  |none=>simp
  |some p=>simp[Nat.add_comm 1 p.1]
def Qtm{K:Type}(eq:K→K→Bool):Prop:=∀a b,eq a b=true↔a=b
theorem Qle:Qtm Qe:=fun a b=>by simp[Qe]
theorem Qjl{K V:Type}{eq:K→K→Bool}(h:Qtm eq){k k':K}{x z:V}:∀{l:List (K×V)},Zz eq k' (Yy eq k x l) z=if eq k' k=true then x else Zz eq k' l z
 |[]=>by rw[Zdn,Qfx]
 |e::l=>by
  rw[Ztd];by_cases he:eq k e.1=true
  ·have hk:=(h _ _).1 he;rw[if_pos he,Qfx,Qfx,←hk];by_cases hk:eq k' k=true
   ·rw[if_pos hk,if_pos hk]
   ·rw[if_neg hk,if_neg hk];simp[hk]
  ·rw[if_neg he,Qfx,Qfx,Qjl h (l:=l)];by_cases hk:eq k' k=true
   ·have:=(h _ _).1 hk;subst this;rw[if_neg he,if_pos hk,if_pos hk]
   ·rw[if_neg hk,if_neg hk]
theorem Zsn(x:UInt8):((BitVec.toFin (UInt8.toBitVec x)).1:Int)=(x.toNat:Int):=rfl
theorem Znl{s:ByteArray}{i:Nat}(h:(s.get! i).toNat<128):Go.Utf8.decode s i=((s.get! i).toNat,1):=by simp only[Go.Utf8.decode,Nat.add_zero];rw[if_pos h]
theorem Ze9{s:ByteArray}{i:Nat}(h:¬(s.get! i).toNat<128):128≤(Go.Utf8.decode s i).1:=by
 simp only[Go.Utf8.decode,Nat.add_zero,Go.Utf8.runeError];rw[if_neg h]
 repeat' split
 all_goals simp only[Bool.and_eq_true,decide_eq_true_eq,ge_iff_le]at*
 all_goals omega
theorem Jl{a b:ByteArray}:Qe a b=true↔a=b:=Qle a b
theorem Qe2{a b:ByteArray}(h:a≠b):Qe a b=false:=by
 cases e:Qe a b with
 |false=>rfl
 |true=>exact absurd (Jl.1 e) h
theorem X2(a:ByteArray):Qe a a=true:=Jl.2 rfl
theorem Qta(a b:ByteArray):Qe a b=decide (a=b):=by
 by_cases h:a=b
 ·subst h;simp[X2]
 ·simp[h,Qe2 h]
def Xd{α:Type}(f:α→α→Bool):Prop:=∀x,f x x=true
theorem Qde{α:Type}{f:α→α→Bool}(hf:Xd f):Xd (Je f)
 |[]=>rfl
 |x::l=>by simp only[Je,hf x];exact Qde hf l
theorem Qea{α β:Type}{f:α→α→Bool}{g:β→β→Bool}(hf:Xd f)(hg:Xd g):Xd (V6 f g):=fun x=>by simp only[V6,hf x.1,hg x.2]
theorem Zfs{α β:Type}{f:α→α→Bool}{g:β→β→Bool}(hf:Xd f)(hg:Xd g):Xd (Qct f g):=fun x=>by
 cases x with
 |inl a=>exact hf a
 |inr b=>exact hg b
theorem Zzh:Xd Qc3:=fun x=>by cases x<;>rfl
theorem Zlh:Xd Ku:=fun x=>by simp[Ku]
theorem Zby:Xd Qe:=fun x=>by simp[Qe]
theorem Zk0:Xd Qjn:=fun x=>by simp[Qjn]
theorem eqv_rf:∀(n:Nat),(∀(t:Ty),SizeOf.sizeOf t≤n→Xd t.eqv)∧(∀(ts:List Ty),SizeOf.sizeOf ts≤n→Xd (Qh.eqv ts)):=by
 intro n;induction n with
 |zero=>exact⟨fun t ht=>by(cases t<;>simp at ht),fun ts ht=>by(cases ts<;>simp at ht)⟩
 |succ n ih=>
  obtain⟨ih1,ih2⟩:=ih;refine⟨fun t ht=>?_,fun ts ht=>?_⟩
  ·match t,ht with
   |.int k,ht=>exact Zlh
   |.bool,ht=>exact Zzh
   |.str,ht=>exact Zby
   |.seq row,ht=>exact Qde (ih2 row (by simp at ht;omega))
  ·match ts,ht with
   |[],ht=>exact fun a=>rfl
   |[t],ht=>exact ih1 t (by simp at ht;omega)
   |t::t'::ts,ht=>exact Qea (ih1 t (by simp at ht;omega)) (ih2 (t'::ts) (by simp at ht⊢;omega))
theorem Ty.eqv_rf(t:Ty):Xd t.eqv:=(Sx.eqv_rf _).1 t (Nat.le_refl _)
theorem Qh.eqv_rf(ts:List Ty):Xd (Qh.eqv ts):=(Sx.eqv_rf _).2 ts (Nat.le_refl _)
theorem Qf.eqv_rf:∀(a:Qf),Xd a.eqv
 |.val t=>Ty.eqv_rf t
 |.agg row=>Qh.eqv_rf row
theorem Qw.eqv_rf:∀(l:List Qf),Xd (Qw.eqv l)
 |[]=>fun a=>rfl
 |[a]=>Qf.eqv_rf a
 |a::a'::l=>Qea (Qf.eqv_rf a) (Qw.eqv_rf (a'::l))
theorem Xb.eqv_rf:∀(l:PL),Xd (Xb.eqv l)
 |[]=>fun a=>rfl
 |[p]=>Qf.eqv_rf p.2
 |p::p'::l=>Qea (Qf.eqv_rf p.2) (Xb.eqv_rf (p'::l))
theorem Ql.eqv_rf:∀(c:Ql),Xd c.eqv
 |.slot _ a=>Qf.eqv_rf a
 |.vec _ _ row=>Qde (Qh.eqv_rf row)
 |.one _ _ row=>Qh.eqv_rf row
 |.mix _ _ _ dat _=>Xb.eqv_rf dat
 |.map _ k v=>Qde (Qea (Qf.eqv_rf k) (Qf.eqv_rf v))
 |.iter _=>Qea Zby Zk0
 |.over _ _=>fun a=>rfl
 |.nest _ _ _ row=>Qde (Qde (Qh.eqv_rf row))
 |.fix _ _ _=>fun a=>rfl
theorem Z0.eqv_rf:∀(l:List Ql),Xd (Z0.eqv l)
 |[]=>fun a=>rfl
 |[c]=>Ql.eqv_rf c
 |c::c'::l=>Qea (Ql.eqv_rf c) (Z0.eqv_rf (c'::l))
theorem Zj.eqv_rf:∀(l:Yw),Xd (Zj.eqv l)
 |[]=>fun a=>by cases a
 |[a]=>Z0.eqv_rf _
 |a::a'::l=>Zfs (Z0.eqv_rf _) (Zj.eqv_rf (a'::l))
def K3(e:Q6):Code→Q6
 |.seq a b=>.two (K3 e a) (K3 e b)
 |.cond _ a b=>.two (K3 e a) (K3 e b)
 |.block _ c=>.one (K3 e c)
 |.loop c=>.one (K3 e c)
 |.scope c=>.one (K3 e c)
 |.ret=>e
 |_=>.leaf
def U8(slot:Nat):Code→Q6
 |.seq a b=>.two (U8 slot a) (U8 slot b)
 |.cond _ a b=>.two (U8 slot a) (U8 slot b)
 |.block _ c=>.one (U8 slot c)
 |.loop c=>.one (U8 slot c)
 |.scope c=>.one (U8 slot c)
 |.ret=>.unslb slot .leaf
 |_=>.leaf
def Qt5:Code→Q6
 |.seq _ (.seq _ r)=>.two .leaf (.two .leaf (.slb 0 (U8 6 r)))
 |_=>.leaf
theorem X1.bare{cx:Cx}{g:Nat}{pf:PF}(h:X1 cx g pf):X1 cx.bare g pf:=⟨h.fn,h.ok⟩
theorem Qg.at2{cx:Cx}{g:Nat}{pc:PC}(h:Qg cx g pc){a0:Qw pc.ats}{y0:Qw pc.rts}(h0:Qg cx g {ats:=pc.ats,rts:=pc.rts,code:=Go.Sx.one a0 y0}):Qg cx g (pc.at a0 y0):=
 ⟨h.fn,fun a y hy=>by
  have hy:(bif Qw.eqv pc.ats a a0 then some y0 else pc.code a)=some y:=hy;cases e:Qw.eqv pc.ats a a0 with
  |true=>rw[e]at hy;exact h0.ok a y (by show(bif Qw.eqv pc.ats a a0 then some y0 else none)=some y;rw[e];exact hy)
  |false=>rw[e]at hy;exact h.ok a y hy⟩
end Go.Sx
