/- Functions of the program as functions of data. By program. Plain law: EntryMoves. -/
import Derived.Test.YtpkbmngnolhopaaGreatDoorXTeD62
set_option maxRecDepth 100000
set_option linter.all false
set_option linter.unusedVariables false
set_option linter.unusedSimpArgs false
namespace Go.Proofs.Tryz
open Go Go.Sx
noncomputable def Zvg(F:Nat):LK:=lC (Qye F) (lC (Yjf F) (lC (Yer F) lN))
noncomputable def c51(F:Nat)(a:(Za)×Qk):Option (Bool):=
 ((c17 F a.1).bind fun(v15:Bool)=>bif v15 then((c18 F a.2).bind fun(v16:Bool)=>bif v16 then((c26 F (a.1,a.2.1,a.2.2.1,a.2.2.2.1,a.2.2.2.2.1,a.2.2.2.2.2)).bind fun(v17:Int)=>some (decide (v17=0)))else(some (false)))else(some (false))).bind fun(v14:Bool)=>some (v14)
noncomputable def Zzk(F:Nat):PC:={ats:=Qhl,rts:=Xd,code:=c51 F}
theorem Yb7(F:Nat):Qg cx 51 (Zzk F):=qE (Zvg F) (.two .leaf (.two (.join [(.normal,⟨[.slot 4 (.val (.bool))],[]⟩)] ⟨(4::Ql 16 12 []),[],[]⟩ .leaf) .leaf)) f51 (by kernel_rfl) fun a=>by kernel_rfl
noncomputable def lx8(F:Nat):LK:=lC (Yb7 F) (lC (Zs6 F) (lC (Qq0 F) (lC (Qye F) (lC (Qfc F) (lC (Qy8 F) (lC (Qst F) (lC (Yaq F) (lC (Zl5 F) (lC (Zj6 F) lN)))))))))
noncomputable def cv8(F:Nat)(a:(Za)×(Qk)×Int)(x0:Za)(x1:Qk):Option (Bool):=
 ((c51 F (x0,x1.1,x1.2.1,x1.2.2.1,x1.2.2.2.1,x1.2.2.2.2)).bind fun(u2:Bool)=>bif !u2 then(some (true))else(some (decide ((↑(a.2.1.2.2.2.1.length):Int)=(0:Int))))).bind fun(u3:Bool)=>bif u3 then(some (true))else(gd (decide ((↑(a.2.1.2.2.2.1.length):Int)≠(0:Int))) (gd (decide (0≤Int.tmod (Go.IntKind.wrap Go.IntKind.i64 a.2.2) (↑(a.2.1.2.2.2.1.length):Int))) (gd (decide (Int.tmod (Go.IntKind.wrap Go.IntKind.i64 a.2.2) (↑(a.2.1.2.2.2.1.length):Int)<(↑(a.2.1.2.2.2.1.length):Int))) (gd (decide (Int.toNat (Int.tmod (Go.IntKind.wrap Go.IntKind.i64 a.2.2) (↑(a.2.1.2.2.2.1.length):Int))<a.2.1.2.2.2.1.length)) ((c52 F (a.1,a.2.1,(a.2.1.2.2.2.1.getD (Int.toNat (Int.tmod (Go.IntKind.wrap Go.IntKind.i64 a.2.2) (↑(a.2.1.2.2.2.1.length):Int))) Q6).2.1)).bind fun(u4:List ByteArray×Int)=>(c50 F (a.1,a.2.1,a.1.1,{data:=List.toArray (119::105::116::104::100::114::97::119::Qa UInt8)},(a.2.1.2.2.2.1.getD (Int.toNat (Int.tmod (Go.IntKind.wrap Go.IntKind.i64 a.2.2) (↑(a.2.1.2.2.2.1.length):Int))) Q6).1,(ByteArray.mk (List.toArray (Qa UInt8))),(ByteArray.mk (List.toArray (Qa UInt8))),(a.2.1.2.2.2.1.getD (Int.toNat (Int.tmod (Go.IntKind.wrap Go.IntKind.i64 a.2.2) (↑(a.2.1.2.2.2.1.length):Int))) Q6).2.1,(0:Int),(0:Int),(ByteArray.mk (List.toArray (Qa UInt8))),(0:Int),(ByteArray.mk (List.toArray (Qa UInt8))),Qa ByteArray)).bind fun(u5:(Qk)×Int)=>(bif !decide (u4.2=0)then(some (true))else(bif !decide (u5.2=0)then(some (true))else((c16 F u5.1).bind fun(u6:Qk)=>(c26 F (x0,u6.1,u6.2.1,u6.2.2.1,u6.2.2.2.1,u6.2.2.2.2)).bind fun(u7:Int)=>bif !decide (u7=0)then(some (true))else(some (!decide ((↑(u5.1.2.2.2.1.length):Int)=w64 ((↑(a.2.1.2.2.2.1.length):Int)-(1:Int)))))))).bind fun(u8:Bool)=>bif u8 then(some (false))else((c52 F (a.1,u5.1,(a.2.1.2.2.2.1.getD (Int.toNat (Int.tmod (Go.IntKind.wrap Go.IntKind.i64 a.2.2) (↑(a.2.1.2.2.2.1.length):Int))) Q6).2.1)).bind fun(u9:List ByteArray×Int)=>bif !decide (u9.2=0)then(some (false))else((Q2 (σ:=Int) (β:=Bool ⊕ Unit) (fun(u10:Int)=>bif decide (u10<(↑(u5.1.2.2.2.1.length):Int))then(gd (decide (0≤u10)) (gd (decide (u10<(↑(u5.1.2.2.2.1.length):Int))) (gd (decide (u10.toNat<u5.1.2.2.2.1.length)) ((c53 F (x1,(u5.1.2.2.2.1.getD (u10.toNat) Q6).1,(u5.1.2.2.2.1.getD (u10.toNat) Q6).2.1)).bind fun(u11:Int)=>(bif decide (u11<0)then(some (true))else(gd (decide (0≤u11)) (gd (decide (u11<(↑(a.2.1.2.2.2.1.length):Int))) (gd (decide (u11.toNat<a.2.1.2.2.2.1.length)) (bif !((a.2.1.2.2.2.1.getD (u11.toNat) Q6).1==(u5.1.2.2.2.1.getD (u10.toNat) Q6).1&&((a.2.1.2.2.2.1.getD (u11.toNat) Q6).2.1==(u5.1.2.2.2.1.getD (u10.toNat) Q6).2.1&&((a.2.1.2.2.2.1.getD (u11.toNat) Q6).2.2.1==(u5.1.2.2.2.1.getD (u10.toNat) Q6).2.2.1&&(decide ((a.2.1.2.2.2.1.getD (u11.toNat) Q6).2.2.2.1=(u5.1.2.2.2.1.getD (u10.toNat) Q6).2.2.2.1)&&((a.2.1.2.2.2.1.getD (u11.toNat) Q6).2.2.2.2.1==(u5.1.2.2.2.1.getD (u10.toNat) Q6).2.2.2.2.1&&true))&&(decide ((a.2.1.2.2.2.1.getD (u11.toNat) Q6).2.2.2.2.2.1=(u5.1.2.2.2.1.getD (u10.toNat) Q6).2.2.2.2.2.1)&&((a.2.1.2.2.2.1.getD (u11.toNat) Q6).2.2.2.2.2.2==(u5.1.2.2.2.1.getD (u10.toNat) Q6).2.2.2.2.2.2&&true)))))then(some (true))else(bif Qc (u5.1.2.2.2.1.getD (u10.toNat) Q6).1 (a.2.1.2.2.2.1.getD (Int.toNat (Int.tmod (Go.IntKind.wrap Go.IntKind.i64 a.2.2) (↑(a.2.1.2.2.2.1.length):Int))) Q6).1 then(some (Qc (u5.1.2.2.2.1.getD (u10.toNat) Q6).2.1 (a.2.1.2.2.2.1.getD (Int.toNat (Int.tmod (Go.IntKind.wrap Go.IntKind.i64 a.2.2) (↑(a.2.1.2.2.2.1.length):Int))) Q6).2.1))else(some (false)))))))).bind fun(u12:Bool)=>bif u12 then(some (Sum.inr (Sum.inl false)))else(some (Sum.inl (w64 (u10+1))))))))else(some (Sum.inr (Sum.inr ())))) F ((0:Int))).bind fun(u13:Bool ⊕ Unit)=>Sum.elim (fun(u14:Bool)=>some (u14)) (fun(u15:Unit)=>(c54 F (u4.1,(a.2.1.2.2.2.1.getD (Int.toNat (Int.tmod (Go.IntKind.wrap Go.IntKind.i64 a.2.2) (↑(a.2.1.2.2.2.1.length):Int))) Q6).1)).bind fun(u16:Bool)=>bif !u16 then(((c44 F (u4.1,u9.1)).bind fun(u17:Bool)=>bif u17 then(some (true))else(some (false))).bind fun(u18:Bool)=>some (u18))else((Q2 (σ:=Int×Int) (β:=Int) (fun(u19:Int×Int)=>bif decide (u19.2<(↑(u9.1.length):Int))then(gd (decide (0≤u19.2)) (gd (decide (u19.2<(↑(u9.1.length):Int))) (gd (decide (u19.2.toNat<u9.1.length)) ((c54 F (u4.1,u9.1.getD (u19.2.toNat) ByteArray.empty)).bind fun(u20:Bool)=>(bif !u20 then(some (w64 (u19.1+1)))else(some u19.1)).bind fun(u21:Int)=>some (Sum.inl (u21,w64 (u19.2+1)))))))else(some (Sum.inr u19.1))) F (((0:Int),(0:Int)))).bind fun(u22:Int)=>(Q2 (σ:=Int) (β:=Bool ⊕ Unit) (fun(u23:Int)=>bif decide (u23<(↑(u4.1.length):Int))then(gd (decide (0≤u23)) (gd (decide (u23<(↑(u4.1.length):Int))) (gd (decide (u23.toNat<u4.1.length)) ((bif !Qc (u4.1.getD (u23.toNat) ByteArray.empty) (a.2.1.2.2.2.1.getD (Int.toNat (Int.tmod (Go.IntKind.wrap Go.IntKind.i64 a.2.2) (↑(a.2.1.2.2.2.1.length):Int))) Q6).1 then((c54 F (u9.1,u4.1.getD (u23.toNat) ByteArray.empty)).bind fun(u24:Bool)=>some (!u24))else(some (false))).bind fun(u25:Bool)=>bif u25 then(some (Sum.inr (Sum.inl false)))else(some (Sum.inl (w64 (u23+1))))))))else(some (Sum.inr (Sum.inr ())))) F ((0:Int))).bind fun(u26:Bool ⊕ Unit)=>Sum.elim (fun(u27:Bool)=>some (u27)) (fun(u28:Unit)=>(bif decide (u22≤1)then(bif decide ((↑(u9.1.length):Int)=w64 (w64 ((↑(u4.1.length):Int)-(1:Int))+u22))then(some (true))else(some (false)))else(some (false))).bind fun(u29:Bool)=>some (u29)) (u26))) (u13))))))))
noncomputable def c8(F:Nat)(a:(Za)×(Qk)×Int):Option (Bool):=
 ((c15 F a.1).bind fun(v624:Za)=>((c16 F a.2.1).bind fun(v749:Qk)=>tw (X:=Bool) (Qs.eqv (Qf.val Ty.bool::Qa Qf)) (cv8 F a v624 v749)).bind fun(v625:Bool)=>(tw (X:=Bool) (Qs.eqv (Qf.val Ty.bool::Qa Qf)) (tw (X:=Bool) (Qs.eqv (Qf.val Ty.bool::Qa Qf)) ((c16 F a.2.1).bind fun(v720:Qk)=>cv8 F a v624 v720))).bind fun(v626:Bool)=>gd (Qs.eqv (Qf.val Ty.bool::Qa Qf) v625 v626) (some (v625))).bind fun(v434:Bool)=>(tw (X:=Bool) (Qs.eqv (Qf.val Ty.bool::Qa Qf)) (((c15 F a.1).bind fun(v563:Za)=>tw (X:=Bool) (Qs.eqv (Qf.val Ty.bool::Qa Qf)) ((c16 F a.2.1).bind fun(v595:Qk)=>cv8 F a v563 v595)).bind fun(v531:Bool)=>((c15 F a.1).bind fun(v533:Za)=>(c16 F a.2.1).bind fun(v534:Qk)=>cv8 F a v533 v534).bind fun(v532:Bool)=>gd (Qs.eqv (Qf.val Ty.bool::Qa Qf) v531 v532) (some (v531)))).bind fun(v435:Bool)=>gd (Qs.eqv (Qf.val Ty.bool::Qa Qf) v434 v435) (some (v434))
noncomputable def pc8(F:Nat):PC:={ats:=[.agg Y9,.agg Zj,.val (.int .u8)],rts:=Xd,code:=c8 F}
theorem Ygc(F:Nat):Qg cx 8 (pc8 F):=qE (lx8 F) (Q8 2 (.two (.two (.join [(.normal,⟨[.slot 37 (.val (.bool))],[]⟩)] ⟨(Ql 37 10 []),[],[]⟩ .leaf) .leaf) (Q8 3 (.two (.two (.join [(.normal,⟨[.slot 92 (.val (.bool))],[]⟩)] ⟨(Ql 92 23 []),[],[]⟩ .leaf) .leaf) (Q8 2 (.two (.two .leaf (.one (.loop ⟨[.slot 106 (.val (.int .i64))],[]⟩ [(.ret,⟨[.slot 6 (.val (.bool))],[]⟩),(.exit 0,⟨[],[]⟩)] ⟨(141::106::Yd 110 6 (18::6::Ql 140 25 (17::109::108::107::[]))),[],[]⟩ F (Q8 2 (.two (.one (Q8 2 (.two (.join [(.normal,⟨[.slot 140 (.val (.bool))],[]⟩)] ⟨(Ql 140 25 []),[],[]⟩ .leaf) .leaf))) .leaf))))) (.two (.two .leaf (.two (.two (.join [(.normal,⟨[.slot 6 (.val (.bool))],[]⟩)] ⟨(6::Ql 152 6 []),[],[]⟩ .leaf) .leaf) .leaf)) (.two .leaf (.two (.two .leaf (.one (.loop ⟨[.slot 19 (.val (.int .i64)),.slot 155 (.val (.int .i64))],[]⟩ [(.exit 2,⟨[.slot 19 (.val (.int .i64))],[]⟩)] ⟨[165,155,159,160,161,162,19,164,163,21,158,157,156],[],[]⟩ F (Q8 2 (.two (.one (Q8 2 (.join [(.normal,⟨[.slot 19 (.val (.int .i64))],[]⟩)] ⟨[19,164,163],[],[]⟩ .leaf))) .leaf))))) (.two (.two .leaf (.one (.loop ⟨[.slot 168 (.val (.int .i64))],[]⟩ [(.ret,⟨[.slot 6 (.val (.bool))],[]⟩),(.exit 4,⟨[],[]⟩)] ⟨(182::168::Yd 172 10 (6::23::171::170::169::[])),[],[]⟩ F (Q8 2 (.two (.one (.two .leaf (.two (.join [(.normal,⟨[.slot 181 (.val (.bool))],[]⟩)] ⟨(Ql 181 10 []),[],[]⟩ .leaf) .leaf))) .leaf))))) (.two (.join [(.normal,⟨[.slot 6 (.val (.bool))],[]⟩)] ⟨(6::Ql 197 15 []),[],[]⟩ .leaf) .leaf))))))))))) f8 (by kernel_rfl) fun a=>by kernel_rfl
theorem Zb9(s:Qw)(P C:Int)(L:List Qp):(X2 s P C L).1.length+(X2 s P C L).2.1.length=L.length:=by
 have h:∀(L:List Qp) (d:Dv),(L.foldl (Yi s P C) d).1.length+(L.foldl (Yi s P C) d).2.1.length=d.1.length+d.2.1.length+L.length:=by
  intro L;induction L with
  |nil=>intro d;rfl
  |cons x L ih=>intro d;rw[List.foldl_cons,ih,(Zlc s P C d x).1,List.length_cons];omega
 have:=h L ([],[],[]);unfold X2;simpa using this
theorem Zvh{m:Mt}(hv:mtE m=0){x:ByteArray}(hc:0≤cI m x):Yy x=true:=by
 obtain⟨j,y,j1,j2,j3,j4⟩:=Qbz hc;unfold mtE at hv;split at hv
 ·cases hv
 ·split at hv
  ·cases hv
  ·split at hv
   ·cases hv
   ·split at hv
    ·cases hv
    ·have h:=U1 hv _ (List.mem_map.2 ⟨j,List.mem_range.2 j2,rfl⟩);unfold J3 at h;rw[getD_some j3]at h;split at h
     ·rename_i h1;rw[Je.1 j4]at h1;exact h1
     ·cases h
theorem Zv7{m:Mt}(hv:mtE m=0):Yr m.1=0:=by
 unfold mtE at hv;split at hv
 ·cases hv
 ·rename_i h;unfold Yr;rw[if_neg];intro h1;rw[h1]at h;simp at h
theorem Yku{m:Mt}{s:Qw}(hv:Z0 m s=0){x:ByteArray}(hx:0≤aI s x):Yy x=true:=by
 have h1:=Qc5 hv;have h2:¬Jr s:=fun h=>by rw[Z0,if_pos h1,if_pos h]at hv;exact absurd hv (by decide)
 rw[Z0,if_pos h1,if_neg h2]at hv;have g:=U1 hv _ (List.mem_cons_of_mem _ (List.mem_cons_self ..));obtain⟨j,y,j1,j2,j3,j4⟩:=Qbz hx;have h:=U1 g _ (List.mem_map.2 ⟨j,List.mem_range.2 j2,rfl⟩);unfold W1 at h;rw[getD_some j3]at h;split at h
 ·rename_i h1;rw[Je.1 j4]at h1;exact h1
 ·cases h
theorem l51{F:Nat}{m:Mt}{s:Qw}(hF:100000≤F)(hm:m.2.2.2.2.length<F)(hmb:m.2.2.2.2.length*128≤140737488355328)(f:Qno F s)(hb:ByS s):
  ∃b,c51 F (m,s)=some b∧(b=true→MtS m∧ShS s∧Z0 m s=0):=by
 obtain⟨b1,h1,h1'⟩:=l17 hm hmb;obtain⟨b2,h2,h2'⟩:=l18 f hb;unfold c51;simp only[Zu,h1,h2,Option.bind_some];cases b1 with
 |false=>exact⟨false,rfl,fun h=>by cases h⟩
 |true=>
  cases b2 with
  |false=>exact⟨false,rfl,fun h=>by cases h⟩
  |true=>have hM:=h1' rfl;have hH:=h2' rfl;simp only[cond_true,l26 (show 400≤F by omega) hM.len hH.sm,Option.bind_some];exact⟨_,rfl,fun h=>⟨hM,hH,of_decide_eq_true h⟩⟩
theorem Zys{s:Qw}{k i:Nat}{x:Qp}(h:(drE s k).2.2.2.1[i]? =some x):∃j,s.2.2.2.1[j]? =some x∧j≠k:=by
 have e3:(if i<k then s.2.2.2.1[i]? else s.2.2.2.1[i+1]?)=some x:=(Qq1 s.2.2.2.1 k i).symm.trans h;by_cases hik:i<k
 ·rw[if_pos hik]at e3;exact⟨i,e3,by omega⟩
 ·rw[if_neg hik]at e3;exact⟨i+1,e3,by omega⟩
theorem Zd8(A:List ByteArray):∀(l:List ByteArray) (c:Nat),l.foldl (fun c x=>if hasB A x=true then c else c+1) c=c+(W0 A l).length
 |[],c=>rfl
 |x::l,c=>by
  rw[List.foldl_cons,Zd8 A l];unfold W0;rw[List.filter_cons];cases hasB A x
  ·simp;omega
  ·simp
theorem Ydu{F:Nat}{m:Mt}{s:Qw}{p:Int}(hp:0≤p∧p≤255)(hF:100000≤F)(hm:m.2.2.2.2.length<F)(hmb:m.2.2.2.2.length*128≤140737488355328)(f:Qno F s)(hb:ByS s):cv8 F (m,s,p) m s=some true:=by
 have hF4:400≤F:=by omega
 have hd:Q6=dE:=rfl;have hw:Go.IntKind.wrap Go.IntKind.i64 p=p:=Zo (by omega) (by omega);obtain⟨b1,h1,h1'⟩:=l51 hF hm hmb f hb;unfold cv8;simp only[Zu,h1,Option.bind_some];cases b1 with
 |false=>rfl
 |true=>
  obtain⟨hM,hH,hv⟩:=h1' rfl;have hS:=hH.sm;by_cases h0:s.2.2.2.1.length=0
  ·simp only[Bool.not_true,cond_false,h0,Int.natCast_zero,decide_true,Option.bind_some,cond_true]
  ·have hq0:¬((s.2.2.2.1.length:Int)=0):=by omega
   have ht1:0≤Int.tmod p s.2.2.2.1.length:=Int.tmod_nonneg _ hp.1;have hpos:(0:Int)<(s.2.2.2.1.length:Int):=by omega
   have ht2:Int.tmod p s.2.2.2.1.length<s.2.2.2.1.length:=Int.tmod_lt_of_pos _ hpos;obtain⟨k,htm⟩:=Int.eq_ofNat_of_zero_le ht1;rw[htm]at ht2;have hk:k<s.2.2.2.1.length:=by omega
   have hz:s.2.2.2.1[k]? =some s.2.2.2.1[k]:=List.getElem?_eq_getElem hk;generalize s.2.2.2.1[k]=z at hz;have hzm:z∈s.2.2.2.1:=List.mem_of_getElem? hz;obtain⟨z1,z2,z3,z4,z5⟩:=Qt9 hv hzm;have hvn:=Zl0 hv hk;have hHn:=Zzl hv hH k;have op:∀s':Qw,Z0 m s'=0→Qb5 m s' z.2.1 false=0:=fun s' h=>by unfold Qb5;rw[h,Qwz z1,if_neg (by omega)];have:decide (0<(cAt m z.2.1).2.2.2.2.2.2.2.2.2.2)=false:=decide_eq_false (by omega);rw[this];rfl
   have e52a:c52 F (m,s,z.2.1)=some ((Xu m s z.2.1).2.1,0):=by rw[l52 hF4 hM.len hM.bd hH,op s hv];rfl
   have e52b:c52 F (m,drE s k,z.2.1)=some ((Xu m (drE s k) z.2.1).2.1,0):=by rw[l52 hF4 hM.len hM.bd hHn,op _ hvn];rfl
   have few:=Qo5 hv hH;have len1:(Xu m s z.2.1).2.1.length≤20:=by have:=Zb9 s (cAt m z.2.1).2.2.2.2.2.1 (cAt m z.2.1).2.2.2.2.2.2.1 (Jv s z.2.1);have:=Qqx hH hv z.2.1;unfold Xu;omega
   have len2:(Xu m (drE s k) z.2.1).2.1.length≤20:=by have:=Zb9 (drE s k) (cAt m z.2.1).2.2.2.2.2.1 (cAt m z.2.1).2.2.2.2.2.2.1 (Jv (drE s k) z.2.1);have:=Qqx hHn hvn z.2.1;unfold Xu;omega
   have hkn:=Qwy hv hzm;have hen:=hH.es z hzm;have he:eI s z.1 z.2.1=k:=Zae hv hz;have e50:c50 F (m,s,m.1,{data:=List.toArray ((119:UInt8)::(105:UInt8)::(116:UInt8)::(104:UInt8)::(100:UInt8)::(114:UInt8)::(97:UInt8)::(119:UInt8)::Qa UInt8)},z.1,(ByteArray.mk (List.toArray (Qa UInt8))),(ByteArray.mk (List.toArray (Qa UInt8))),z.2.1,(0:Int),(0:Int),(ByteArray.mk (List.toArray (Qa UInt8))),(0:Int),(ByteArray.mk (List.toArray (Qa UInt8))),Qa ByteArray)=some (drE s k,0):=by
    have ha:ShA (m.1,z.1,k0,k0,z.2.1,0,0,k0,0,k0,Qa ByteArray):=⟨hen.1,(by show k0.size≤60;decide),(by show k0.size≤60;decide),hen.2.1,(by show(Qa ByteArray).length≤10;decide),fun x hx=>by cases hx⟩;have h:=(Zh9 (F:=F) (by omega) hM.len hM.bd hH ha).p50;have l0:leE m s (m.1,Yz,z.1,k0,k0,z.2.1,0,0,k0,0,k0,Qa ByteArray) (J8 m s (m.1,z.1,k0,k0,z.2.1,0,0,k0,0,k0,Qa ByteArray))=0:=by
     have a0:Vp (m.1,Yz,z.1,k0,k0,z.2.1,0,0,k0,0,k0,Qa ByteArray)=0:=by
      show Yn true false false true false false false false false (m.1,z.1,k0,k0,z.2.1,0,0,k0,0,k0,Qa ByteArray)=0;refine Qms fun x hx=>?_;simp only[List.mem_cons,List.not_mem_nil,or_false,cond_true,cond_false]at hx;have n1:Z8 z.1=0:=if_pos (Yku hv hkn);have n2:Z8 z.2.1=0:=if_pos (Zvh (Qc5 hv) z1);rcases hx with rfl|rfl|rfl|rfl|rfl|rfl|rfl|rfl|rfl|rfl|rfl
      ·exact Zv7 (Qc5 hv)
      ·exact n1
      ·rfl
      ·rfl
      ·exact n2
      ·rfl
      ·rfl
      ·rfl
      ·rfl
      ·rfl
      ·rfl
     unfold leE;rw[if_pos hv,if_pos a0];unfold J8;rw[if_neg (show¬eI s z.1 z.2.1<0 by omega),if_neg (show¬m.1<m.1 by omega)]
    rw[if_pos l0]at h;have hn:Wj s (m.1,z.1,k0,k0,z.2.1,0,0,k0,0,k0,Qa ByteArray)=drE s k:=by show(s.1,s.2.1,s.2.2.1,s.2.2.2.1.take (eI s z.1 z.2.1).toNat++s.2.2.2.1.drop ((eI s z.1 z.2.1).toNat+1),s.2.2.2.2)=drE s k;rw[he];rfl
    rw[hn]at h;exact h
   have hln:(drE s k).2.2.2.1.length+1=s.2.2.2.1.length:=by show(s.2.2.2.1.take k++s.2.2.2.1.drop (k+1)).length+1=s.2.2.2.1.length;rw[List.length_append,List.length_take,List.length_drop];omega
   have e16:c16 F (drE s k)=some (drE s k):=l16 ⟨f.l,by have:=f.e;omega,f.t⟩ ⟨hb.l,by have:=hb.e;omega,hb.t⟩;have e26:c26 F (m,drE s k)=some 0:=by rw[l26 hF4 hM.len hHn.sm,hvn]
   have hlw:((drE s k).2.2.2.1.length:Int)=w64 ((s.2.2.2.1.length:Int)-1):=by rw[Zo (by omega) (by omega)];omega
   have ne:((s.2.2.2.1.length:Int))≠0:=hq0;simp(disch:=omega)only[Bool.not_true,cond_false,hq0,decide_false,Option.bind_some,hw,htm,Zv,Int.toNat_natCast,getD_some hz,hd,e52a,e50,e16,e26,e52b,decide_true,hlw,ne,ne_eq,not_false_eq_true,Zp];refine Wm (drE s k).2.2.2.1 (fun(_:Unit) i=>(i:Int)) (fun _ _=>(.inl ():Unit ⊕ (Bool ⊕ Unit))) (fun _=>.inr ()) (fun _ _=>True) () (by omega) rfl trivial ?_ ?_ ?_
   ·intro i x _ hi hx _;refine⟨?_,fun _ _=>trivial⟩;obtain⟨j,hj,hjk⟩:=Zys hx;have hjl:j<s.2.2.2.1.length:=(List.getElem?_eq_some_iff.1 hj).1;have e53:c53 F (s,x.1,x.2.1)=some (j:Int):=by rw[l53 hF4 hS,Zae hv hj]
    have hno:¬(x.1=z.1∧x.2.1=z.2.1):=by
     by_cases hlt:j<k
     ·exact Qmt hv hj hz hlt
     ·intro h;exact Qmt hv hz hj (by omega) ⟨h.1.symm,h.2.symm⟩
    have hbool:(x.2.2.2.2.2.2==x.2.2.2.2.2.2)=true:=by cases x.2.2.2.2.2.2<;>rfl
    simp(disch:=omega)only[Zy,Zv,Int.toNat_natCast,getD_some hx,getD_some hj,e53,Zo,Option.bind_some,Zq,Zka,hbool,decide_true,Bool.and_self,Bool.not_true,cond_false];by_cases q:Qc x.1 z.1=true
    ·have q2:Qc x.2.1 z.2.1=false:=by
      cases e:Qc x.2.1 z.2.1 with
      |false=>rfl
      |true=>exact absurd ⟨Je.1 q,Je.1 e⟩ hno
     simp only[q,q2,cond_true,cond_false,Option.bind_some];rfl
    ·rw[Bool.not_eq_true]at q;simp only[q,cond_false,Option.bind_some];rfl
   ·intro _ _;simp(disch:=omega)only[Zq]
   ·rw[Qg6];simp only[Sum.elim_inr];rw[l54 hF4 (show(Xu m s z.2.1).2.1.length≤300 by omega)];simp only[Option.bind_some];rcases Yg9 hv hz with⟨d1,d2⟩|⟨d1,d2,t,d3,d4,d5⟩
    ·rw[d1,←d2];simp only[Bool.not_false,cond_true,l44 (F:=F) (l:=(Xu m s z.2.1).2.1) (by omega) (by omega),Option.bind_some]
    ·rw[d1];simp only[Bool.not_true,cond_false];generalize (Xu m s z.2.1).2.1=A at*;generalize (Xu m (drE s k) z.2.1).2.1=B at*;refine Wm B (fun(c:Nat) i=>((c:Int),(i:Int))) (fun x c=>.inl (if hasB A x=true then c else c+1)) (fun c=>(c:Int)) (fun i c=>c≤i) 0 (by omega) rfl (Nat.le_refl _) ?_ ?_ ?_
     ·intro i x c hi hx hc;refine⟨?_,fun c' h=>?_⟩
      ·simp(disch:=omega)only[Zy,Zv,Int.toNat_natCast,getD_some hx,l54 hF4 (show A.length≤300 by omega),Zo,Option.bind_some];cases hasB A x
       ·simp
       ·simp
      ·cases h;split<;>omega
     ·intro c hc;simp(disch:=omega)only[Zq]
     ·rw[Qhr (fun(c:Nat) x=>if hasB A x=true then c else c+1),Zd8,d5];simp only[Nat.zero_add];refine Wm A (fun(_:Unit) i=>(i:Int)) (fun _ _=>(.inl ():Unit ⊕ (Bool ⊕ Unit))) (fun _=>.inr ()) (fun _ _=>True) () (by omega) rfl trivial ?_ ?_ ?_
      ·intro i x _ hi hx _;refine⟨?_,fun _ _=>trivial⟩;simp(disch:=omega)only[Zy,Zv,Int.toNat_natCast,getD_some hx,l54 hF4 (show B.length≤300 by omega),Zo,Option.bind_some];by_cases q:Qc x z.1=true
       ·simp only[q,Bool.not_true,cond_false,Option.bind_some];rfl
       ·have q3:hasB B x=true:=Qod.2 (d2 x (List.mem_of_getElem? hx) fun h=>q (by rw[h];exact Jm _));rw[Bool.not_eq_true]at q;simp only[q,q3,Bool.not_true,Bool.not_false,cond_false,cond_true,Option.bind_some];rfl
      ·intro _ _;simp(disch:=omega)only[Zq]
      ·rw[Qg6];have w1:w64 ((A.length:Int)-1)=(A.length:Int)-1:=Zo (by omega) (by omega);have w2:w64 ((A.length:Int)-1+(t:Int))=(A.length:Int)-1+t:=Zo (by omega) (by omega);have w3:(B.length:Int)=(A.length:Int)-1+t:=by omega
       have w4:(t:Int)≤1:=by omega
       simp only[Sum.elim_inr,w1,w2,w3,w4,decide_true,cond_true,Option.bind_some]
theorem Zq3(a:Mt×Qw×Int)(hok:Qs.ok [atM,atS,.val (.int .u8)] a):∃F,c8 F a=some true:=by obtain⟨m,s,p⟩:=a;obtain⟨k1,k2,k3⟩:=hok;have hmb:=okM k1;have hb:=okS k2;have hp:0≤p∧p≤255:=k3;obtain⟨r1,r2,r3⟩:=Zkl m s;refine⟨Qev m s,?_⟩;generalize Qev m s=F at r1 r2 r3;have e15:c15 F (m.1,m.2.1,m.2.2.1,m.2.2.2.1,m.2.2.2.2)=some m:=l15 r2 hmb;have e16:c16 F (s.1,s.2.1,s.2.2.1,s.2.2.2.1,s.2.2.2.2)=some s:=l16 ⟨r3.l,r3.e,r3.t⟩ ⟨hb.l,hb.e,hb.t⟩;unfold c8 tw;simp only[e15,e16,Ydu hp r1 r2 hmb r3 hb,Option.bind_some,Yjv,Zp]
end Go.Proofs.Tryz
