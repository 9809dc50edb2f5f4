/- Functions of the program as functions of data. By program. Plain law: TrackHurdles. -/
import Derived.Test.YtebmfbcngojbdaaGreatDoorXTkP_bnd0
import Derived.Test.YtebmfbcngojbdaaGreatDoorXTkWl
set_option maxRecDepth 100000
set_option linter.all false
set_option linter.unusedVariables false
set_option linter.unusedSimpArgs false
namespace Go.Proofs.Tryz
open Go Go.Sx
noncomputable def lx3(F:Nat):Lx:={ext:=[(7,(pc7 F).sm),(8,(pc8 F).sm),(11,(Qp8 F).sm),(10,(Qmm F).sm),(9,(pc9 F).sm),(6,(pc6 F).sm)],anns:=[],still:=[]}
noncomputable def c3(F:Nat)(a:(Int×Int×Int×Int)×Int):Option (Bool):=
 Option.bind (Go.Proofs.Tryz.c6 F ((Prod.fst (Prod.fst a),Prod.fst (Prod.snd (Prod.fst a)),Prod.fst (Prod.snd (Prod.snd (Prod.fst a))),Prod.snd (Prod.snd (Prod.snd (Prod.fst a)))),Prod.snd a)) fun(v20:Int)=>Option.bind (Go.Proofs.Tryz.c7 F ((Prod.fst (Prod.fst a),Prod.fst (Prod.snd (Prod.fst a)),Prod.fst (Prod.snd (Prod.snd (Prod.fst a))),Prod.snd (Prod.snd (Prod.snd (Prod.fst a)))),Prod.snd a)) fun(v21:List Int×Int)=>Option.bind (bif Decidable.decide (v20=(0:Int))then(Option.bind (Go.Proofs.Tryz.c8 F (Prod.fst (Prod.fst a),Prod.fst (Prod.snd (Prod.fst a)),Prod.fst (Prod.snd (Prod.snd (Prod.fst a))),Prod.snd (Prod.snd (Prod.snd (Prod.fst a))))) fun(v26:List Int)=>some (v26))else(some (Go.Sx.nilT Int))) fun(v22:List Int)=>Option.bind (Option.bind (Go.Proofs.Tryz.c9 F ((Prod.fst (Prod.fst a),Prod.fst (Prod.snd (Prod.fst a)),Prod.fst (Prod.snd (Prod.snd (Prod.fst a))),Prod.snd (Prod.snd (Prod.snd (Prod.fst a)))),Prod.snd a)) fun(v24:Int)=>bif Decidable.decide (v24=v20)then(bif Decidable.decide (Prod.snd v21=v20)then(Option.bind (Go.Proofs.Tryz.c10 F (Prod.fst v21,v22)) fun(v25:Bool)=>bif v25 then(some (Bool.true))else(some (Bool.false)))else(some (Bool.false)))else(some (Bool.false))) fun(v23:Bool)=>some (v23)
noncomputable def pc3(F:Nat):PC:={ats:=[.agg [.int .i64,.int .i64,.int .i64,.int .i64],.val (.int .i64)],rts:=[.val (.bool)],code:=c3 F}
theorem Qzs(F:Nat):(lx3 F).Ok cx:=Lx.Za (PC.Zn (Qzr F)) (Lx.Za (PC.Zn (Qwc F)) (Lx.Za (PC.Zn (Zab F)) (Lx.Za (PC.Zn (Qtm F)) (Lx.Za (PC.Zn (Quv F)) (Lx.Za (PC.Zn (Zlj F)) (Lx.Y4))))))
theorem Qw0(F:Nat)(a:(Int×Int×Int×Int)×Int):Zx cx (lx3 F) 1000 (.two .leaf (.two .leaf (.two .leaf (.two .leaf (.two (.two .leaf (.join [(.normal,⟨[.slot 8 (.val (.seq [.int .i64]))],[]⟩)] ⟨[8,21,20],[],[]⟩ .leaf)) (.two (.join [(.normal,⟨[.slot 4 (.val (.bool))],[]⟩)] ⟨[4,39,38,37,36,35,34,33,32,31,30,29,28,27,26,25,24,23,22],[],[]⟩ .leaf) .leaf)))))) f3 (Qe f3) [.agg [.int .i64,.int .i64,.int .i64,.int .i64],.val (.int .i64)] [.val (.bool)] a=c3 F a:=by kernel_rfl
theorem Zbg(F:Nat):Qz cx 3 (pc3 F):=Qz.Qk Ql (Qzs F) (n:=1000) (an:=(.two .leaf (.two .leaf (.two .leaf (.two .leaf (.two (.two .leaf (.join [(.normal,⟨[.slot 8 (.val (.seq [.int .i64]))],[]⟩)] ⟨[8,21,20],[],[]⟩ .leaf)) (.two (.join [(.normal,⟨[.slot 4 (.val (.bool))],[]⟩)] ⟨[4,39,38,37,36,35,34,33,32,31,30,29,28,27,26,25,24,23,22],[],[]⟩ .leaf) .leaf))))))) (fn:=f3) (c:=Qe f3) (by kernel_rfl) (by kernel_rfl) (fun a y h=>(Qw0 F a).trans h) (by kernel_rfl)
theorem Zh4(h:Hd):(Vs h).length=h.2.2.2.toNat:=by simp[Vs]
theorem Zb2{h:Hd}{d:Int}(hv:Ja h d=0):1≤h.2.2.2∧h.2.2.2≤64:=by
 have h4:wiE h.2.2.2 1 64=0:=by
  unfold Ja at hv;by_cases h4:wiE h.2.2.2 1 64=0
  ·exact h4
  ·exfalso;by_cases h1:wiE h.1 1 999999=0
   ·by_cases h2:wiE h.2.1 1 999999=0
    ·by_cases h3:wiE h.2.2.1 1 999999=0
     ·simp[Z8,h1,h2,h3,h4]at hv
     ·simp[Z8,h1,h2,h3]at hv
    ·simp[Z8,h1,h2]at hv
   ·simp[Z8,h1]at hv
 unfold wiE at h4;by_cases q:h.2.2.2<1∨64<h.2.2.2
 ·rw[if_pos q]at h4;exact absurd h4 (by decide)
 ·omega
theorem Zh5(a:Hd×Int)(hok:Q6.ok [.agg [.int .i64,.int .i64,.int .i64,.int .i64],.val (.int .i64)] a):∃F,c3 F a=some true:=by
 obtain⟨h,d⟩:=a;refine⟨1000,?_⟩;have e10:c10 1000 ([],nilT Int)=some true:=l10 (by simp) (by simp);unfold c3;simp only[Qwe,l6,l7 (F:=1000) (by omega),l9 (F:=1000) (by omega),Option.bind_some];by_cases hv:Ja h d=0
 ·obtain⟨h1,h2⟩:=Zb2 hv;have h8:c8 1000 h=some (Vs h):=by obtain⟨a,b,c,n⟩:=h;simp only at h1 h2;obtain⟨k,rfl⟩:∃k:Nat,n=(k:Int):=⟨n.toNat,by omega⟩;exact l8 (by omega) (by omega)
  have hl:=Zh4 h;simp only[hv,decide_true,cond_true,if_true,h8,Option.bind_some,l10 (F:=1000) (l:=Vs h) (by omega) (by omega)]
 ·simp only[hv,decide_true,decide_false,cond_true,cond_false,if_false,e10,Option.bind_some]
end Go.Proofs.Tryz
