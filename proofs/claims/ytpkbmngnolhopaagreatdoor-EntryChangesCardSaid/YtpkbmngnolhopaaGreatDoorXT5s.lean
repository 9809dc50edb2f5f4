/- Plain: strings in order, by sorting and by insertion. Functions of the program as functions of data. By program. And further parts. -/
import Derived.Test.YtpkbmngnolhopaaGreatDoorXSxSo
import Derived.Test.YtpkbmngnolhopaaGreatDoorXSxQg
import Derived.Sort.Walk0
import Derived.Test.YtpkbmngnolhopaaGreatDoorXTeSor
import Derived.Test.YtpkbmngnolhopaaGreatDoorXT3f
import Derived.Test.YtpkbmngnolhopaaGreatDoorXT3i
import Derived.Test.YtpkbmngnolhopaaGreatDoorXTeD62
import Derived.Test.YtpkbmngnolhopaaGreatDoorXT3y
import Derived.Test.YtpkbmngnolhopaaGreatDoorXTeR
import Derived.Test.YtpkbmngnolhopaaGreatDoorXTeR2
set_option maxRecDepth 100000
set_option linter.unusedVariables false
set_option linter.unusedSimpArgs false
set_option linter.all false
open ByteArray renaming empty->I,toList->ZJ
open Option renaming bind_some->J
open List renaming length->R,drop->U,take->ZA,getElem?_eq_getElem->ZC,foldl_cons->ZE,mem_append->ZG,mem_singleton->ZH,length_cons->ZK,mem_filter->ZM,getElem_of_mem->ZN,mem_cons->ZO,length_map->ZQ,length_append->ZR,getElem_drop->ZT,nodup_append->ZU,le_antisymm->ZW,perm_middle->ZX,length_drop->ZY,not_lt->ZZ,nodup_cons->Q1,append_nil->Q2,length_nil->QA
open Int renaming toNat_natCast->ZB,toNat->ZI
open Bool renaming and_self->ZD,and_true->ZF,false_eq_true->ZS,not_eq_true'->ZV,not_false->QB,not_true->QC,true_and->QD
open Nat renaming le_refl->ZL
open Sum.inl renaming injEq->ZP
namespace Go.Sx
open Go
def bk(s:ByteArray):List UInt8:=s.data.toList
theorem Qyz{a b:ByteArray}(h:bk a=bk b):a=b:=by cases a;cases b;simp only[bk]at h;simpa using h
theorem Qrb(s:ByteArray):s.toList=bk s:=by rw[ByteArray.toList_eq];rfl
def ltS(a b:ByteArray):Bool:=decide (bk a<bk b)
theorem Zsg(a b:ByteArray):Go.Op.bytesLess a.toList b.toList=ltS a b:=by rw[Qrb,Qrb,Proofs.bytesLess_eq];rfl
theorem Zk5(a:ByteArray):ltS a a=false:=by simp[ltS]
theorem Qst{a b c:ByteArray}(h:ltS a b=true)(k:ltS b c=true):ltS a c=true:=by simp only[ltS,decide_eq_true_eq]at*;exact List.lt_trans h k
theorem Zq2{a b:ByteArray}(h:ltS a b=false)(k:ltS b a=false):a=b:=by simp only[ltS,decide_eq_false_iff_not]at*;exact Qyz (ZW (ZZ.1 k) (ZZ.1 h))
theorem Ykj(a b:ByteArray):(a.toList==b.toList)=decide (a=b):=by
 rw[Qrb,Qrb];by_cases h:a=b
 ·subst h;simp
 ·have:¬bk a=bk b:=fun e=>h (Qyz e);simp[h,this]
def K9(l:List ByteArray):Prop:=l.Pairwise fun a b=>ltS a b=true
theorem K9.ext{l m:List ByteArray}(hl:K9 l)(hm:K9 m)(h:∀x,x∈l↔x∈m):l=m:=by
 have nd:∀{l:List ByteArray},K9 l->l.Nodup:=fun hl=>hl.imp fun{a b} h e=>by subst e;rw[Zk5]at h;cases h
 refine List.Perm.eq_of_pairwise (le:=fun a b=>ltS a b=true) (fun a b _ _ h1 h2=>?_) hl hm ((List.perm_ext_iff_of_nodup (nd hl) (nd hm)).2 h);have:=Qst h1 h2;rw[Zk5]at this;cases this
theorem Zon{l:List ByteArray}(h:l.Nodup):K9 (Yx l):=by
 have hn:(Yx l).Nodup:=((Qwm l).nodup_iff).2 h;have tot:∀(a b:List UInt8),(decide (a<=b)||decide (b<=a))=true:=fun a b=>by have:=List.le_total a b;simpa using this
 have trans:∀(a b c:List UInt8),decide (a<=b)=true->decide (b<=c)=true->decide (a<=c)=true:=fun a b c h1 h2=>by have h1:=of_decide_eq_true h1;have h2:=of_decide_eq_true h2;exact decide_eq_true (List.le_trans h1 h2)
 have hp:(Yx l).Pairwise fun a b=>decide (bk a<=bk b)=true:=by unfold Yx;rw[List.pairwise_map];refine(List.pairwise_mergeSort trans tot _).imp fun{a b} h=>?_;unfold bk;exact h
 refine(hp.and hn).imp fun{a b} h=>?_;obtain⟨h1,h2⟩:=h;have h1:=of_decide_eq_true h1;unfold ltS;refine decide_eq_true (Classical.byContradiction fun h3=>h2 (Qyz (ZW h1 (ZZ.1 h3))))
def Y4(x:ByteArray)(l:List ByteArray):Nat->Nat
 |0=>0
 |n+1=>if(ltS (l.getD n I) x||decide (l.getD n I=x))=true then n+1 else Y4 x l n
theorem Qvl(x:ByteArray)(l:List ByteArray):∀n,Y4 x l n<=n
 |0=>ZL _
 |n+1=>by
  unfold Y4;split
  ·exact ZL _
  ·exact Nat.le_succ_of_le (Qvl x l n)
theorem Zjo{x:ByteArray}{l:List ByteArray}:∀{n j:Nat},Y4 x l n<=j->j<n->ltS (l.getD j I) x=false∧l.getD j I≠x
 |0,j,_,h=>by omega
 |n+1,j,h1,h2=>by
  unfold Y4 at h1;split at h1
  ·omega
  ·rename_i e;by_cases hj:j=n
   ·subst hj;rw[Bool.not_eq_true,Bool.or_eq_false_iff,decide_eq_false_iff_not]at e;exact e
   ·exact Zjo h1 (by omega)
theorem Qz5{x:ByteArray}{l:List ByteArray}:∀{n:Nat},0<Y4 x l n->(ltS (l.getD (Y4 x l n-1) I) x||decide (l.getD (Y4 x l n-1) I=x))=true
 |0,h=>by simp[Y4]at h
 |n+1,h=>by
  unfold Y4 at h⊢;split
  ·rename_i e;exact e
  ·rename_i e;rw[if_neg e]at h;exact Qz5 h
def V3(l:List ByteArray)(x:ByteArray):List ByteArray:=l.take (Y4 x l l.length)++x::l.drop (Y4 x l l.length)
theorem Qtm(l:List ByteArray)(x:ByteArray):(V3 l x).Perm (x::l):=by unfold V3;refine ZX.trans ?_;rw[List.take_append_drop]
theorem Yak{l:List ByteArray}{x:ByteArray}(h:K9 l)(hx:x∉l):K9 (V3 l x):=by
 have hle:=Qvl x l l.length;have hhi:∀j,Y4 x l l.length<=j->j<l.length->ltS x (l.getD j I)=true:=fun j h1 h2=>by
  obtain⟨k1,k2⟩:=Zjo h1 h2;cases e:ltS x (l.getD j I)with
  |true=>rfl
  |false=>exact absurd (Zq2 k1 e) k2
 have hlo:∀y∈l.take (Y4 x l l.length),ltS y x=true:=fun y hy=>by
  have hp:0<Y4 x l l.length:=by
   rcases Nat.eq_zero_or_pos (Y4 x l l.length)with h0|h0
   ·rw[h0,List.take_zero]at hy;cases hy
   ·exact h0
  have h1:=Qz5 hp;have hlt:Y4 x l l.length-1<l.length:=by omega
  have hg:l.getD (Y4 x l l.length-1) I=l[Y4 x l l.length-1]:=getD_some (ZC hlt);rw[hg]at h1;have hne:l[Y4 x l l.length-1]≠x:=fun e=>hx (e▸List.getElem_mem hlt);rw[decide_eq_false hne,Bool.or_false]at h1;obtain⟨i,hi,rfl⟩:=ZN hy;rw[List.length_take]at hi;rw[List.getElem_take];by_cases hi2:i=Y4 x l l.length-1
  ·subst hi2;exact h1
  ·exact Qst (List.pairwise_iff_getElem.1 h i (Y4 x l l.length-1) (by omega) hlt (by omega)) h1
 unfold K9 V3;rw[List.pairwise_append,List.pairwise_cons];refine⟨h.sublist (List.take_sublist _ _),⟨fun y hy=>?_,h.sublist (List.drop_sublist _ _)⟩,fun y hy z hz=>?_⟩
 ·obtain⟨i,hi,rfl⟩:=ZN hy;rw[ZY]at hi;have:=hhi (Y4 x l l.length+i) (by omega) (by omega);rw[getD_some (ZC (show Y4 x l l.length+i<l.length by omega))]at this;rw[ZT];exact this
 ·have hyx:=hlo y hy;rcases ZO.1 hz with rfl|hz
  ·exact hyx
  ·obtain⟨i,hi,rfl⟩:=ZN hz;rw[ZY]at hi;have:=hhi (Y4 x l l.length+i) (by omega) (by omega);rw[getD_some (ZC (show Y4 x l l.length+i<l.length by omega))]at this;rw[ZT];exact Qst hyx this
theorem Yop{l:List ByteArray}:∀{o:List ByteArray},K9 o->(l++o).Nodup->K9 (l.foldl V3 o)∧∀x,x∈l.foldl V3 o↔x∈l∨x∈o:=by
 induction l with
 |nil=>exact fun{o} h _=>⟨h,fun x=>by simp⟩
 |cons y l ih=>
  intro o h hn;rw[List.cons_append,Q1]at hn;have hy:y∉o:=fun e=>hn.1 (ZG.2 (.inr e));have hn2:(l++V3 o y).Nodup:=by refine((List.Perm.append_left l (Qtm o y)).nodup_iff).2 ?_;refine(ZX.nodup_iff).2 ?_;rw[Q1];exact hn
  obtain⟨h1,h2⟩:=ih (Yak h hy) hn2;rw[ZE];refine⟨h1,fun x=>?_⟩;rw[h2,(Qtm o y).mem_iff];simp only[ZO];constructor
  ·rintro (h|h|h)
   ·exact .inl (.inr h)
   ·exact .inl (.inl h)
   ·exact .inr h
  ·rintro ((h|h)|h)
   ·exact .inr (.inl h)
   ·exact .inl h
   ·exact .inr (.inr h)
theorem Yl4{l m:List ByteArray}(hl:l.Nodup)(hm:m.Nodup)(h:∀x,x∈l↔x∈m):l.foldl V3 []=Yx m:=by obtain⟨h1,h2⟩:=Yop (l:=l) (o:=[]) .nil (by rw[Q2];exact hl);refine K9.ext h1 (Zon hm) fun x=>?_;rw[h2,(Qwm m).mem_iff,<-h];simp
end Go.Sx
namespace Go.Proofs.Tryz
open Go Go.Sx
noncomputable def Zxu(F:Nat):LK:=lC (Qrk F) (lC (Zm3 F) (lB [(217,Jr (Qs f217))]))
noncomputable def Ql0(F:Nat)(a:(Zs)×(Ql)×ByteArray×ByteArray):Option (Int):=
 (c72 F (a.1,a.2.1,a.2.2.1,false)).bind fun(v9:List ByteArray×List ByteArray)=>(c54 F (v9.1,a.2.2.2)).bind fun(v10:Bool)=>bif v10 then(some ((1:Int)))else((c54 F (v9.2,a.2.2.2)).bind fun(v11:Bool)=>bif v11 then(some ((2:Int)))else(some ((0:Int))))
noncomputable def Yrq(F:Nat):PC:={ats:=Zbt,rts:=Zp,code:=Ql0 F}
theorem Zrm(F:Nat):Qg cx 134 (Yrq F):=qE (Zxu F) .leaf f134 (by kernel_rfl) fun a=>by kernel_rfl
noncomputable def Zvp(F:Nat):LK:=lC (Zrm F) (lC (Qrk F) (lB [(217,Jr (Qs f217))]))
noncomputable def c48(F:Nat)(a:(Zs)×(Ql)×(Ql)×ByteArray):Option (List ByteArray):=
 (Qw (O:=List ByteArray×Int) (β:=List ByteArray) (fun(v143:List ByteArray×Int)=>bif decide (v143.2<(↑(a.2.1.2.1.length):Int))then(gd (decide (0<=v143.2)) (gd (decide (v143.2<(↑(a.2.1.2.1.length):Int))) (gd (decide (v143.2.toNat<a.2.1.2.1.length)) (gd (decide (v143.1.length=v143.1.length)) (gd (decide (R (v143.1++(a.2.1.2.1.getD (v143.2.toNat) Zw).1::Qa ByteArray)*(16:Nat)<=(140737488355328:Nat))) (gd (decide (R (v143.1++(a.2.1.2.1.getD (v143.2.toNat) Zw).1::Qa ByteArray)<=9223372036854775807)) ((gd (decide (R (v143.1++(a.2.1.2.1.getD (v143.2.toNat) Zw).1::Qa ByteArray)=R (v143.1++(a.2.1.2.1.getD (v143.2.toNat) Zw).1::Qa ByteArray))&&true&&(true&&true)) (some ((v143.1++(a.2.1.2.1.getD (v143.2.toNat) Zw).1::Qa ByteArray,w64 (v143.2+1))))).bind fun(v144:List ByteArray×Int)=>some (Sum.inl v144))))))))else((gd (decide (v143.1.length=v143.1.length)&&true&&true) (some v143.1)).bind fun(v145:List ByteArray)=>some (Sum.inr v145))) F (WC)).bind fun(v127:List ByteArray)=>(gd (decide (v127.length=v127.length)&&true&&(true&&true)) (some ((v127,(0:Int))))).bind fun(v128:List ByteArray×Int)=>(Qw (O:=List ByteArray×Int) (β:=List ByteArray) (fun(v138:List ByteArray×Int)=>bif decide (v138.2<(↑(a.2.2.1.2.1.length):Int))then(gd (decide (0<=v138.2)) (gd (decide (v138.2<(↑(a.2.2.1.2.1.length):Int))) (gd (decide (v138.2.toNat<a.2.2.1.2.1.length)) (gd (decide ((0:Nat)+v138.1.length<=v138.1.length)&&true&&true) ((c54 F (ZA (v138.1.length) (U (0:Nat) v138.1),(a.2.2.1.2.1.getD (v138.2.toNat) Zw).1)).bind fun(v139:Bool)=>(bif !v139 then(gd (decide (0<=v138.2)) (gd (decide (v138.2<(↑(a.2.2.1.2.1.length):Int))) (gd (decide (v138.2.toNat<a.2.2.1.2.1.length)) (gd (decide (v138.1.length=v138.1.length)) (gd (decide (R (v138.1++(a.2.2.1.2.1.getD (v138.2.toNat) Zw).1::Qa ByteArray)*(16:Nat)<=(140737488355328:Nat))) (gd (decide (R (v138.1++(a.2.2.1.2.1.getD (v138.2.toNat) Zw).1::Qa ByteArray)<=9223372036854775807)) (gd (decide (R (v138.1++(a.2.2.1.2.1.getD (v138.2.toNat) Zw).1::Qa ByteArray)=R (v138.1++(a.2.2.1.2.1.getD (v138.2.toNat) Zw).1::Qa ByteArray))&&true&&true) (some (v138.1++(a.2.2.1.2.1.getD (v138.2.toNat) Zw).1::Qa ByteArray)))))))))else(gd (decide (v138.1.length=v138.1.length)&&true&&true) (some v138.1))).bind fun(v140:List ByteArray)=>(gd (decide (v140.length=v140.length)&&true&&(true&&true)) (some ((v140,w64 (v138.2+1))))).bind fun(v141:List ByteArray×Int)=>some (Sum.inl v141))))))else((gd (decide (v138.1.length=v138.1.length)&&true&&true) (some v138.1)).bind fun(v142:List ByteArray)=>some (Sum.inr v142))) F (v128)).bind fun(v129:List ByteArray)=>(Qw (O:=List ByteArray×Int) (β:=List ByteArray) (fun(v131:List ByteArray×Int)=>bif decide (v131.2<(↑(v129.length):Int))then(gd (decide (0<=v131.2)) (gd (decide (v131.2<(↑(v129.length):Int))) (gd (decide ((0:Nat)+v131.2.toNat<v129.length)) (gd (decide (0<=v131.2)) (gd (decide (v131.2<(↑(v129.length):Int))) (gd (decide ((0:Nat)+v131.2.toNat<v129.length)) ((Ql0 F (a.1,a.2.1,a.2.2.2,v129.getD ((0:Nat)+v131.2.toNat) I)).bind fun(v132:Int)=>(Ql0 F (a.1,a.2.2.1,a.2.2.2,v129.getD ((0:Nat)+v131.2.toNat) I)).bind fun(v133:Int)=>bif decide (v132=v133)then(some (Sum.inl (v131.1,w64 (v131.2+1))))else((Qw (O:=Int) (β:=Int) (fun(v136:Int)=>(bif decide (0<v136)then(gd (decide (0<=w64 (v136-1))) (gd (decide (w64 (v136-1)<(↑(v131.1.length):Int))) (gd (decide (ZI (w64 (v136-1))<v131.1.length)) (gd (decide (0<=v131.2)) (gd (decide (v131.2<(↑(v129.length):Int))) (gd (decide ((0:Nat)+v131.2.toNat<v129.length)) (some (!(Go.Op.bytesLess (ZJ (v131.1.getD (ZI (w64 (v136-1))) I)) (ZJ (v129.getD ((0:Nat)+v131.2.toNat) I))||ZJ (v131.1.getD (ZI (w64 (v136-1))) I)==ZJ (v129.getD ((0:Nat)+v131.2.toNat) I))))))))))else(some (false))).bind fun(v137:Bool)=>bif v137 then(some (Sum.inl (w64 (v136-1))))else(some (Sum.inr v136))) F ((↑(v131.1.length):Int))).bind fun(v134:Int)=>gd (decide (0<=v134)) (gd (decide (v134<=(↑(v131.1.length):Int))) (gd (decide (R (Qa ByteArray++U (0:Nat) (ZA (v134.toNat) v131.1))*(16:Nat)<=(140737488355328:Nat))) (gd (decide (R (Qa ByteArray++U (0:Nat) (ZA (v134.toNat) v131.1))<=9223372036854775807)) (gd (decide (0<=v131.2)) (gd (decide (v131.2<(↑(v129.length):Int))) (gd (decide ((0:Nat)+v131.2.toNat<v129.length)) (gd (decide (0<=v134)) (gd (decide (v134<=(↑(v131.1.length):Int))) (gd (decide ((↑(v131.1.length):Int)<=(↑(v131.1.length):Int))) (gd (decide (R (Qa ByteArray++U (0:Nat) (ZA (v134.toNat) v131.1))=R (Qa ByteArray++U (0:Nat) (ZA (v134.toNat) v131.1)))) (gd (decide (R (Qa ByteArray++U (0:Nat) (ZA (v134.toNat) v131.1)++v129.getD ((0:Nat)+v131.2.toNat) I::Qa ByteArray)*(16:Nat)<=(140737488355328:Nat))) (gd (decide (R (Qa ByteArray++U (0:Nat) (ZA (v134.toNat) v131.1)++v129.getD ((0:Nat)+v131.2.toNat) I::Qa ByteArray)<=9223372036854775807)) (gd (decide (R (Qa ByteArray++U (0:Nat) (ZA (v134.toNat) v131.1)++v129.getD ((0:Nat)+v131.2.toNat) I::Qa ByteArray)=R (Qa ByteArray++U (0:Nat) (ZA (v134.toNat) v131.1)++v129.getD ((0:Nat)+v131.2.toNat) I::Qa ByteArray))) (gd (decide (R (Qa ByteArray++U (0:Nat) (ZA (v134.toNat) v131.1)++v129.getD ((0:Nat)+v131.2.toNat) I::Qa ByteArray++U (v134.toNat) (ZA (ZI (↑(v131.1.length):Int)) v131.1))*(16:Nat)<=(140737488355328:Nat))) (gd (decide (R (Qa ByteArray++U (0:Nat) (ZA (v134.toNat) v131.1)++v129.getD ((0:Nat)+v131.2.toNat) I::Qa ByteArray++U (v134.toNat) (ZA (ZI (↑(v131.1.length):Int)) v131.1))<=9223372036854775807)) ((gd (true&&(decide ((0:Nat)+R (Qa ByteArray++U (0:Nat) (ZA (v134.toNat) v131.1)++v129.getD ((0:Nat)+v131.2.toNat) I::Qa ByteArray++U (v134.toNat) (ZA (ZI (↑(v131.1.length):Int)) v131.1))<=R (Qa ByteArray++U (0:Nat) (ZA (v134.toNat) v131.1)++v129.getD ((0:Nat)+v131.2.toNat) I::Qa ByteArray++U (v134.toNat) (ZA (ZI (↑(v131.1.length):Int)) v131.1)))&&true)) (some ((ZA (R (Qa ByteArray++U (0:Nat) (ZA (v134.toNat) v131.1)++v129.getD ((0:Nat)+v131.2.toNat) I::Qa ByteArray++U (v134.toNat) (ZA (ZI (↑(v131.1.length):Int)) v131.1))) (U (0:Nat) (Qa ByteArray++U (0:Nat) (ZA (v134.toNat) v131.1)++v129.getD ((0:Nat)+v131.2.toNat) I::Qa ByteArray++U (v134.toNat) (ZA (ZI (↑(v131.1.length):Int)) v131.1))),w64 (v131.2+1))))).bind fun(v135:List ByteArray×Int)=>some (Sum.inl v135)))))))))))))))))))))))))else(some (Sum.inr v131.1))) F (WC)).bind fun(v130:List ByteArray)=>some (v130)
noncomputable def Ztj(F:Nat):PC:={ats:=[.agg Xs,.agg Zm,.agg Zm,.val (.str)],rts:=Qaz,code:=c48 F}
theorem Yn6(F:Nat):Qg cx 48 (Ztj F):=qE (Zvp F) (Q7 2 (.two (.two .leaf (.one (.virt 9 9 Ze (.loop ⟨[.vec 3 9 Ze,.slot 10 (.val (.int .i64))],[(9,.own 3)]⟩ [(.exit 0,⟨[.vec 3 9 Ze],[(9,.own 3)]⟩)] ⟨(kU 23 9 (9::10::kD 22 7 [])),[3],[3]⟩ F .leaf)))) (.two (.two .leaf (.one (.loop ⟨[.vec 3 9 Ze,.slot 11 (.val (.int .i64))],[(9,.own 3)]⟩ [(.exit 2,⟨[.vec 3 9 Ze],[(9,.own 3)]⟩)] ⟨(kU 39 9 (9::kD 56 9 (11::kD 38 7 []))),[3],[3]⟩ F (.two .leaf (.two (.one (.two .leaf (.join [(.normal,⟨[.vec 3 9 Ze],[(9,.own 3)]⟩)] ⟨(9::kD 56 9 []),[3],[3]⟩ .leaf))) .leaf))))) (.two .leaf (.two (.two .leaf (.one (.loop ⟨[.slot 12 (.val (.seq Ze)),.slot 13 (.val (.int .i64))],[]⟩ [(.exit 4,⟨[.slot 12 (.val (.seq Ze))],[]⟩)] ⟨(kU 63 17 (kU 82 14 (97::96::kU 103 11 (12::15::102::101::100::99::98::14::81::80::13::kD 62 6 [])))),[],[]⟩ F (.two .leaf (.two (.one (Q7 2 (.two (.one (.loop ⟨[.slot 14 (.val (.int .i64))],[]⟩ [(.exit 6,⟨[.slot 14 (.val (.int .i64))],[]⟩)] ⟨(96::97::14::kD 95 14 []),[],[]⟩ F (.two (.two (.join [(.normal,⟨[.slot 95 (.val (.bool))],[]⟩)] ⟨(kD 95 14 []),[],[]⟩ .leaf) .leaf) .leaf))) .leaf))) .leaf))))) .leaf))))) f48 (by kernel_rfl) fun a=>by kernel_rfl
theorem Zb9(s:Qi)(P C:Int):∀(L:List Qq) (d:Dv),(L.foldl (Y3 s P C) d).1.length+(L.foldl (Y3 s P C) d).2.1.length=d.1.length+d.2.1.length+L.length
 |[],d=>rfl
 |x::L,d=>by rw[ZE,Zb9 s P C L,ZK];have:=(Qw4 s P C d x).1;omega
theorem Ycm(m:Mt)(s:Qi)(c:ByteArray):(Yn m s c).1.length+(Yn m s c).2.1.length=(X5 s c).length:=by have:=Zb9 s (Zh m c).2.2.2.2.2.1 (Zh m c).2.2.2.2.2.2.1 (X5 s c) ([],[],[]);unfold Yn Vm;simp only[QA]at this;omega
theorem Zeh{F:Nat}(hF:400<=F){m:Mt}(hm:m.2.2.2.2.length<=300){s:Qi}(h:ByA m s){c:ByteArray}(hc:0<=cI m c)(k:ByteArray):Ql0 F (m,s,c,k)=some (Ye (Yn m s c) k):=by
 have hA:Ko (Ww s c false):=Zad h.st c Qtp;have hn:=Ycm m s c;have hl:=h.list c;have e72:c72 F (m,s,c,false)=some ((Yn m s c).2.1,(Yn m s c).1):=by have:=l72 hF hm h.sm hc hA (fun x hx=>Zkd h.st hx);rw[Zky]at this;exact this
 unfold Ql0 Ye;simp only[Zj,e72,J,l54 hF (show(Yn m s c).2.1.length<=300 by omega),l54 hF (show(Yn m s c).1.length<=300 by omega)];cases hasB (Yn m s c).2.1 k<;>cases hasB (Yn m s c).1 k<;>rfl
def Qfy(s s':Qi):List ByteArray:=(s'.2.1.map (·.1)).foldl (fun all x=>if hasB all x=true then all else all++[x]) (s.2.1.map (·.1))
theorem Qs9:∀(l o:List ByteArray),o.Nodup->(l.foldl (fun all x=>if hasB all x=true then all else all++[x]) o).Nodup∧∀x,x∈l.foldl (fun all x=>if hasB all x=true then all else all++[x]) o↔x∈o∨x∈l
 |[],o,h=>⟨h,fun x=>by simp⟩
 |y::l,o,h=>by
  rw[ZE];by_cases e:hasB o y=true
  ·rw[if_pos e];obtain⟨h1,h2⟩:=Qs9 l o h;refine⟨h1,fun x=>?_⟩;rw[h2,ZO];constructor
   ·rintro (h|h)
    ·exact .inl h
    ·exact .inr (.inr h)
   ·rintro (h|rfl|h)
    ·exact .inl h
    ·exact .inl (Qey.1 e)
    ·exact .inr h
  ·rw[if_neg e];have hy:y∉o:=fun h=>e (Qey.2 h);obtain⟨h1,h2⟩:=Qs9 l (o++[y]) (by rw[ZU];exact⟨h,by simp,fun a ha b hb e=>hy (by rw[ZH]at hb;rw[<-hb,<-e];exact ha)⟩);refine⟨h1,fun x=>?_⟩;rw[h2,ZO,ZG,ZH,or_assoc]
theorem Zkb:∀(l o:List ByteArray),(l.foldl (fun all x=>if hasB all x=true then all else all++[x]) o).length<=o.length+l.length
 |[],o=>ZL _
 |y::l,o=>by
  rw[ZE];have h:=Zkb l (if hasB o y=true then o else o++[y]);refine Nat.le_trans h ?_;by_cases e:hasB o y=true
  ·simp only[e,if_true,ZK];omega
  ·simp only[e,ZK,if_false,ZR,QA,ZS];omega
theorem Qk4{m:Mt}{s:Qi}(h:ByA m s)(c k:ByteArray):Ye (Yn m s c) k≠0↔k∈X6 s c:=by
 have key:∀(L:List Qq) (d:Dv) (ids:List ByteArray),(∀k,k∈d.2.1∨k∈d.1↔k∈ids)->∀k,k∈(L.foldl (Y3 s (Zh m c).2.2.2.2.2.1 (Zh m c).2.2.2.2.2.2.1) d).2.1∨k∈(L.foldl (Y3 s (Zh m c).2.2.2.2.2.1 (Zh m c).2.2.2.2.2.2.1) d).1↔k∈ids++L.map (·.1):=by
  intro L;induction L with
  |nil=>intro d ids h k;rw[List.map_nil,Q2];exact h k
  |cons x L ih=>
   intro d ids h k;rw[ZE,List.map_cons,show ids++x.1::L.map (·.1)=(ids++[x.1])++L.map (·.1)by simp];refine ih _ _ (fun k=>?_) k;unfold Y3;have:=h k;split
   ·simp only[ZG,ZH,<-this];constructor
    ·rintro ((h|h)|h)
     ·exact .inl (.inl h)
     ·exact .inr h
     ·exact .inl (.inr h)
    ·rintro ((h|h)|h)
     ·exact .inl (.inl h)
     ·exact .inr h
     ·exact .inl (.inr h)
   ·simp only[ZG,ZH,<-this,or_assoc]
 have h1:=key (X5 s c) ([],[],[]) [] (fun k=>by simp) k;rw[List.nil_append]at h1;unfold X6;rw[<-h1,<-Qey,<-Qey];unfold Ye Yn Vm;generalize hasB (List.foldl (Y3 s (Zh m c).2.2.2.2.2.1 (Zh m c).2.2.2.2.2.2.1) ([],[],[]) (X5 s c)).2.1 k=b1;generalize hasB (List.foldl (Y3 s (Zh m c).2.2.2.2.2.1 (Zh m c).2.2.2.2.2.2.1) ([],[],[]) (X5 s c)).1 k=b2;cases b1<;>cases b2<;>simp
theorem Zze{m:Mt}{s s':Qi}(h:ByA m s)(h':ByA m s')(c:ByteArray):(chA (X6 s c) (X6 s' c) (Yn m s c) (Yn m s' c)).Nodup:=by unfold chA;rw[ZU];refine⟨(Qhw h.ok c).filter _,(Qhw h'.ok c).filter _,fun a ha b hb e=>?_⟩;subst e;have h1:=(ZM.1 ha).1;have h2:=(ZM.1 hb).2;exact(Qk4 h c a).2 h1 (of_decide_eq_true h2)
theorem Ztl{m:Mt}{s s':Qi}(h:ByA m s)(h':ByA m s')(c k:ByteArray):k∈chA (X6 s c) (X6 s' c) (Yn m s c) (Yn m s' c)↔Ye (Yn m s c) k≠Ye (Yn m s' c) k:=by
 unfold chA;simp only[ZG,ZM,ZV,decide_eq_false_iff_not,decide_eq_true_eq,<-Qk4 h,<-Qk4 h'];constructor
 ·rintro (⟨h1,h2⟩|⟨h1,h2⟩)
  ·exact h2
  ·rw[h2];exact fun e=>h1 e.symm
 ·intro h1;by_cases h2:Ye (Yn m s c) k=0
  ·exact .inr ⟨fun e=>h1 (by rw[h2,e]),h2⟩
  ·exact .inl ⟨h2,h1⟩
theorem Ybq{m:Mt}{s s':Qi}(h:ByA m s)(h':ByA m s')(c:ByteArray):((Qfy s s').filter fun k=>!decide (Ye (Yn m s c) k=Ye (Yn m s' c) k)).foldl V3 []=chS m s s' c:=by
 obtain⟨h1,h2⟩:=Qs9 (s'.2.1.map (·.1)) (s.2.1.map (·.1)) (Yo6 h.ok);refine Yl4 (h1.filter _) (Zze h h' c) fun x=>?_;rw[ZM,Ztl h h'];have h3:x∈Qfy s s'↔x∈s.2.1.map (·.1)∨x∈s'.2.1.map (·.1):=h2 x;rw[h3,ZV,decide_eq_false_iff_not];refine⟨fun h=>h.2,fun hne=>⟨?_,hne⟩⟩;by_cases h4:Ye (Yn m s c) x=0
 ·have h5:Ye (Yn m s' c) x≠0:=fun e=>hne (by rw[h4,e]);exact .inr (Qxb h'.ok ((Qk4 h' c x).1 h5))
 ·exact .inl (Qxb h.ok ((Qk4 h c x).1 h4))
theorem Zk3{α β:Type}(p:α->Bool)(f:β->α->β):∀(l:List α) (o:β),l.foldl (fun o x=>if p x=true then f o x else o) o=(l.filter p).foldl f o
 |[],o=>rfl
 |x::l,o=>by rw[ZE,Zk3 p f l];cases h:p x<;>simp[h]
theorem Zfi{step:Int->Option (Int ⊕ Int)}{x:ByteArray}{l:List ByteArray}
  (hgo:∀n:Nat,n<l.length->step ((n:Int)+1)=some (if(ltS (l.getD n I) x||decide (l.getD n I=x))=true then .inr ((n:Int)+1)else .inl (n:Int)))
  (h0:step 0=some (.inr 0)):∀(n F:Nat),n<=l.length->n<F->Qw step F (n:Int)=some (Y4 x l n:Int)
 |0,F+1,_,_=>by show Qw step (F+1) 0=_;simp only[Qw,h0];rfl
 |n+1,F+1,hn,hF=>by
  have h1:=hgo n (by omega);have e:((n+1:Nat):Int)=(n:Int)+1:=by omega
  rw[e];unfold Y4;by_cases c:(ltS (l.getD n I) x||decide (l.getD n I=x))=true
  ·rw[if_pos c]at h1;simp only[Qw,h1,if_pos c];rfl
  ·rw[if_neg c]at h1;simp only[Qw,h1,if_neg c];exact Zfi hgo h0 n F (by omega) (by omega)
theorem l48{F:Nat}(hF:400<=F){m:Mt}(hm:m.2.2.2.2.length<=300){s s':Qi}(h:ByA m s)(h':ByA m s'){c:ByteArray}(hc:0<=cI m c):c48 F (m,s,s',c)=some (chS m s s' c):=by
 have e:∀y:ByteArray,y::Qa ByteArray=[y]:=fun _=>rfl;have hdA:Zw=dA:=rfl;have ha:=h.g.a;have ha':=h'.g.a;have hall:(Qfy s s').length<=48:=by have:=Zkb (s'.2.1.map (·.1)) (s.2.1.map (·.1));unfold Qfy;rw[ZQ,ZQ]at this;omega
 unfold c48;simp only[hdA,Zj];refine Jl s.2.1 (fun out i=>(out,(i:Int))) (fun x out=>.inl (out++[x.1])) (fun out=>out) (fun i (out:List ByteArray)=>out.length=i) (Qa ByteArray) (by omega) rfl rfl ?_ ?_ ?_
 ·intro i x out hi hx ho;have hl2:(out++[x.1]).length=i+1:=by simp[ho]
  refine⟨?_,fun s' hs=>?_⟩
  ·simp(disch:=omega)only[Z3,Zf,ZB,getD_some hx,Zy,e,hl2,decide_true,ZD,ZF,Q3,J];rfl
  ·simp only[ZP]at hs;subst hs;exact hl2
 ·intro out ho;simp(disch:=omega)only[Z0,decide_true,ZD,ZF,Q3,J]
 rw[Qoz (fun x:Ath=>x.1)];simp only[decide_true,ZD,ZF,Q3,J];refine Jl s'.2.1 (fun out i=>(out,(i:Int))) (fun x out=>.inl (if hasB out x.1=true then out else out++[x.1])) (fun out=>out) (fun i (out:List ByteArray)=>out.length<=24+i) (s.2.1.map (·.1)) (by omega) rfl (by rw[ZQ];omega) ?_ ?_ ?_
 ·intro i x out hi hx ho;have hl2:(out++[x.1]).length=out.length+1:=by simp
  refine⟨?_,fun s' hs=>?_⟩
  ·simp(disch:=omega)only[Z3,Zf,ZB,getD_some hx,Zy,e,hl2,Nat.zero_add,ZL,Qyj,l54 hF (show out.length<=300 by omega),decide_true,ZD,ZF,Q3,J];cases hasB out x.1<;>simp[Q3]
  ·simp only[ZP]at hs;subst hs;split
   ·omega
   ·rw[hl2];omega
 ·intro out ho;simp(disch:=omega)only[Z0,decide_true,ZD,ZF,Q3,J]
 rw[Uw (fun out (x:Ath)=>if hasB out x.1=true then out else out++[x.1])];have hN:s'.2.1.foldl (fun out (x:Ath)=>if hasB out x.1=true then out else out++[x.1]) (s.2.1.map (·.1))=Qfy s s':=by unfold Qfy;rw[List.foldl_map]
 rw[hN];refine Jl (Qfy s s') (fun out i=>(out,(i:Int))) (fun x out=>.inl (if(!decide (Ye (Yn m s c) x=Ye (Yn m s' c) x))=true then V3 out x else out)) (fun out=>out) (fun i (out:List ByteArray)=>out.length<=i) (Qa ByteArray) (by omega) rfl (ZL _) ?_ ?_ ?_
 ·intro i x out hi hx ho;have hp:=(Qtm out x).length_eq;rw[ZK]at hp;refine⟨?_,fun s' hs=>?_⟩
  ·simp(disch:=omega)only[Z3,Zf,ZB,Nat.zero_add,getD_some hx,Zy,Zeh hF hm h hc,Zeh hF hm h' hc,J];by_cases e0:Ye (Yn m s c) x=Ye (Yn m s' c) x
   ·simp only[e0,decide_true,cond_true,QC,ZS,if_false];rfl
   ·simp only[e0,decide_false,cond_false,QB,if_true];rw[Zfi (x:=x) (l:=out) ?_ ?_ out.length F (ZL _) (by omega)]
    ·have hpl:=Qvl x out out.length;have q1:((out.take (Y4 x out out.length)).length)=Y4 x out out.length:=Qmv hpl;have q2:(Qa ByteArray++U 0 (out.take (Y4 x out out.length)))=out.take (Y4 x out out.length):=by rw[List.drop_zero];rfl
     have q3:(out.take (Y4 x out out.length)++[x]).length=Y4 x out out.length+1:=by rw[ZR,q1];rfl
     have q4:out.take (Y4 x out out.length)++[x]++out.drop (Y4 x out out.length)=V3 out x:=by unfold V3;simp
     simp(disch:=omega)only[Zf,ZB,e,q2,q1,q3,List.take_length,q4,hp,J,decide_true,ZD,ZF,Q3];rw[<-hp,Qyj];simp[hp,Q3]
    ·intro n hn;have hg:out.getD n I=out[n]:=getD_some (ZC hn);simp(disch:=omega)only[Z3,Zf,Zy,show(n:Int)+1-1=(n:Int)by omega,ZB,Zsg,Ykj,J];cases(ltS (out.getD n I) x||decide (out.getD n I=x))<;>rfl
    ·simp(disch:=omega)only[Z0,J,cond_false]
  ·simp only[ZP]at hs;subst hs;split
   ·omega
   ·omega
 ·intro out ho;simp(disch:=omega)only[Z0]
 ·rw[Uw (fun out (x:ByteArray)=>if(!decide (Ye (Yn m s c) x=Ye (Yn m s' c) x))=true then V3 out x else out),Zk3 (fun x=>!decide (Ye (Yn m s c) x=Ye (Yn m s' c) x))];exact congrArg some (Ybq h h' c)
end Go.Proofs.Tryz
section
namespace Go.Proofs.Tryz
open Go Go.Sx
end Go.Proofs.Tryz
end
section
namespace Go.Proofs.Tryz
open Go Go.Sx
end Go.Proofs.Tryz
end
section
namespace Go.Proofs.Tryz
open Go Go.Sx
end Go.Proofs.Tryz
end
section

end
namespace Go.Proofs.Tryz
open Go Go.Sx
noncomputable def lx4(F:Nat):LK:=lC (Zcd F) (lC (Zbs F) (lC (Qzw F) (lC (Zkf F) (lC (Zho F) (lC (Zhe F) (lC (Yjh F) (lC (Yf6 F) (lC (Ygi F) (lC (Yqv F) (lC (Zly F) (lC (Zei F) (lC (Ze4 F) (lC (Zix F) (lB [(217,Jr (Qs f217))]))))))))))))))
noncomputable def pc4(F:Nat):PC:=qT (lx4 F) (Q7 2 (.two (.two (.join [(.normal,⟨[.slot 24 (.val (.bool))],[]⟩)] ⟨(kD 24 8 []),[],[]⟩ .leaf) .leaf) (Q7 4 (.two (.two .leaf (.join [(.normal,⟨[.one 4 44 Zm,.slot 12 (.val (.seq kt5))],[]⟩)] ⟨[12,46,45,41,44,43,42],[4],[]⟩ .leaf)) (.two (.join [(.normal,⟨[.slot 4 (.val (.bool))],[]⟩)] ⟨(4::kD 64 18 []),[],[]⟩ .leaf) .leaf))))) f4 Qsp Xn
noncomputable def c4(F:Nat):=(pc4 F).code
abbrev atL:Qe:=.val (.seq [.int .i64,.str,.str,.str,.str,.str,.int .i64,.int .i64,.str,.int .i64,.str,.seq Ze])
theorem okL{l:List Ya}(h:Qe.ok atL l):l.length*168<=140737488351232∧∀a∈l,a.2.2.2.2.2.2.2.2.2.2.2.length*16<=140737488351232:=by obtain⟨h1,h2⟩:=h;refine⟨h1,fun a ha=>?_⟩;exact(h2 a ha).2.2.2.2.2.2.2.2.2.2.2.1
theorem l27{F:Nat}{l:List Ya}(hF:l.length<F)(hb:l.length*168<=140737488355328):c27 F l=some l:=by
 have e:∀y:Ya,y::Qa Ya=[y]:=fun _=>rfl;have hd:YA=dA3:=rfl;unfold c27;simp only[hd];refine Jl l (fun out i=>(out,(i:Int))) (fun x out=>.inl (out++[x])) (fun out=>out) (fun i out=>out.length=i) (Qa Ya) hF rfl rfl ?_ ?_ ?_
 ·intro i x out hi hx ho;have hl2:(out++[x]).length=i+1:=by simp[ho]
  refine⟨?_,fun s' hs=>?_⟩
  ·simp(disch:=omega)only[Z3,Zf,ZB,getD_some hx,Zy,Zj,e,hl2,ho,decide_true,ZD,QD,Q3,J];rfl
  ·simp only[ZP]at hs;subst hs;exact hl2
 ·intro out ho;simp(disch:=omega)only[Z0,ho,decide_true,ZD,QD,Q3,J]
 ·rw[Qoz (fun x:Ya=>x)];simp[Qa,Q3]
structure ShL (n:Nat) (l:List Ya):Prop where
 n:l.length<=n∨(256<l.length∧l.length<=259)
 s:∀a∈l,Zz (a.1,a.2.2)
theorem l28{F:Nat}(hF:400<=F){l:List Ya}(hl:l.length<F)(hb:l.length*168<=140737488355328){n:Nat}(hn:n<=256):∃b,c28 F (l,(n:Int))=some b∧(b=true->ShL n l):=by
 have hd:YA=dA3:=rfl;unfold c28;simp only[hd];rw[l78 F _ _ _ (by omega)];by_cases h0:(l.length:Int)<=(n:Int)∨(256:Int)<l.length∧(l.length:Int)<=256+3
 ·simp only[h0,decide_true,QC,cond_false,J];refine Qtv l (fun a=>Zz (a.1,a.2.2)) (fun b:Bool ⊕ Unit=>b=.inl false∨(b=.inr ()∧∀x∈l,Zz (x.1,x.2.2))) hl ?_ ?_ ?_
  ·intro i x hi hx;obtain⟨b,h1,h2⟩:=l19 hF x;simp(disch:=omega)only[Z3,Zf,ZB,getD_some hx,Zy,Zj,h1,J];cases b with
   |true=>exact⟨_,rfl,.inl ⟨rfl,h2 rfl⟩⟩
   |false=>exact⟨_,rfl,.inr ⟨_,rfl,.inl rfl⟩⟩
  ·intro h;exact⟨_,by simp(disch:=omega)only[Z0],.inr ⟨rfl,h⟩⟩
  ·rintro b (rfl|⟨rfl,h⟩)
   ·exact⟨false,rfl,fun h=>by cases h⟩
   ·exact⟨true,rfl,fun _=>⟨by omega,h⟩⟩
 ·simp only[h0,decide_false,QB,cond_true,J];exact⟨false,rfl,fun h=>by cases h⟩
theorem ShL.len{n:Nat}{l:List Ya}(h:ShL n l)(hn:n<=256):l.length<=300:=by rcases h.n with h|h<;>omega
end Go.Proofs.Tryz
section

end
