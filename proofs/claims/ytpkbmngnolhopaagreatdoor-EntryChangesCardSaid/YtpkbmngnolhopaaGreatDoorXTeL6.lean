/- Functions of the program as functions of data. By program. Plain law: EntryChanges. -/
import Derived.Test.YtpkbmngnolhopaaGreatDoorXT5s
set_option maxRecDepth 100000
set_option linter.all false
set_option linter.unusedVariables false
set_option linter.unusedSimpArgs false
open Option renaming bind_some->j
open Bool renaming and_self->o
namespace Go.Proofs.Tryz
open Go Go.Sx
noncomputable def lx6(F:Nat):LK:=lC (Zcd F) (lC (Zbs F) (lC (Qzw F) (lC (Zkf F) (lC (Zho F) (lC (Qhy F) (lC (Zyn F) (lC (Zhe F) (lC (Qqd F) (lC (Zly F) (lC (Yn6 F) (lC (Yqn F) (lC (Ze4 F) (lC (Zix F) (lB [(217,Jr (Qs f217))]))))))))))))))
noncomputable def c6(F:Nat)(a:(Zs)×(List (Q9)×List (Q9))×ByteArray):Option (Bool):=
 ((c15 F a.1).bind fun v164=>((c27 F a.2.1.1).bind fun v189=>tw (X:=Bool) (Qt.eqv (Qe.val Ty.bool::Qa Qe)) ((c27 F a.2.1.2).bind fun v213=>((c17 F v164).bind fun v231=>bif !v231 then(some (true))else((c28 F (v189,(24:Int))).bind fun v232=>bif !v232 then(some (true))else((c28 F (v213,(24:Int))).bind fun v233=>bif !v233 then(some (true))else(some (decide (60<(↑(ByteArray.size a.2.2):Int))))))).bind fun v214=>bif v214 then(some (true))else((c46 F (a.1,a.2.1.1,a.2.1.2,a.2.2)).bind fun v215=>(c22 F v164).bind fun v216=>(c31 F v189).bind fun v217=>(c31 F v213).bind fun v218=>(c47 F (v164,a.2.2)).bind fun v219=>(c39 F (decide (v219<0),(10:Int))).bind fun v220=>(c30 F (v216::v217::v218::v220::Qa Int)).bind fun v221=>(bif decide (v221=0)then((c47 F (v164,a.2.2)).bind fun v229=>gd (decide (0<=v229)) (gd (decide (v229<(↑(v164.2.2.2.2.length):Int))) (gd (decide (v229.toNat<v164.2.2.2.2.length)) ((c39 F (decide (0<(v164.2.2.2.2.getD (v229.toNat) Zd).2.2.2.2.2.2.2.2.2.2),(13:Int))).bind fun v230=>some (v230)))))else(some (v221))).bind fun v222=>(bif decide (v222=0)then((c32 F (v164,v189)).bind fun v226=>(c32 F (v164,v213)).bind fun v227=>(c48 F (v164,v226.1,v227.1,a.2.2)).bind fun v228=>some (v228))else(some (Qa ByteArray))).bind fun v223=>(bif decide (v215.2=v222)then((c44 F (v215.1,v223)).bind fun v225=>bif v225 then(some (true))else(some (false)))else(some (false))).bind fun v224=>some (v224)))).bind fun v165=>((c27 F a.2.1.1).bind fun v167=>(c27 F a.2.1.2).bind fun v168=>((c17 F v164).bind fun v186=>bif !v186 then(some (true))else((c28 F (v167,(24:Int))).bind fun v187=>bif !v187 then(some (true))else((c28 F (v168,(24:Int))).bind fun v188=>bif !v188 then(some (true))else(some (decide (60<(↑(ByteArray.size a.2.2):Int))))))).bind fun v169=>bif v169 then(some (true))else((c46 F (a.1,a.2.1.1,a.2.1.2,a.2.2)).bind fun v170=>(c22 F v164).bind fun v171=>(c31 F v167).bind fun v172=>(c31 F v168).bind fun v173=>(c47 F (v164,a.2.2)).bind fun v174=>(c39 F (decide (v174<0),(10:Int))).bind fun v175=>(c30 F (v171::v172::v173::v175::Qa Int)).bind fun v176=>(bif decide (v176=0)then((c47 F (v164,a.2.2)).bind fun v184=>gd (decide (0<=v184)) (gd (decide (v184<(↑(v164.2.2.2.2.length):Int))) (gd (decide (v184.toNat<v164.2.2.2.2.length)) ((c39 F (decide (0<(v164.2.2.2.2.getD (v184.toNat) Zd).2.2.2.2.2.2.2.2.2.2),(13:Int))).bind fun v185=>some (v185)))))else(some (v176))).bind fun v177=>(bif decide (v177=0)then((c32 F (v164,v167)).bind fun v181=>(c32 F (v164,v168)).bind fun v182=>(c48 F (v164,v181.1,v182.1,a.2.2)).bind fun v183=>some (v183))else(some (Qa ByteArray))).bind fun v178=>(bif decide (v170.2=v177)then((c44 F (v170.1,v178)).bind fun v180=>bif v180 then(some (true))else(some (false)))else(some (false))).bind fun v179=>some (v179))).bind fun v166=>gd (Qt.eqv (Qe.val Ty.bool::Qa Qe) v165 v166) (some (v165))).bind fun v139=>((c15 F a.1).bind fun v141=>(c27 F a.2.1.1).bind fun v142=>(c27 F a.2.1.2).bind fun v143=>((c17 F v141).bind fun v161=>bif !v161 then(some (true))else((c28 F (v142,(24:Int))).bind fun v162=>bif !v162 then(some (true))else((c28 F (v143,(24:Int))).bind fun v163=>bif !v163 then(some (true))else(some (decide (60<(↑(ByteArray.size a.2.2):Int))))))).bind fun v144=>bif v144 then(some (true))else((c46 F (a.1,a.2.1.1,a.2.1.2,a.2.2)).bind fun v145=>(c22 F v141).bind fun v146=>(c31 F v142).bind fun v147=>(c31 F v143).bind fun v148=>(c47 F (v141,a.2.2)).bind fun v149=>(c39 F (decide (v149<0),(10:Int))).bind fun v150=>(c30 F (v146::v147::v148::v150::Qa Int)).bind fun v151=>(bif decide (v151=0)then((c47 F (v141,a.2.2)).bind fun v159=>gd (decide (0<=v159)) (gd (decide (v159<(↑(v141.2.2.2.2.length):Int))) (gd (decide (v159.toNat<v141.2.2.2.2.length)) ((c39 F (decide (0<(v141.2.2.2.2.getD (v159.toNat) Zd).2.2.2.2.2.2.2.2.2.2),(13:Int))).bind fun v160=>some (v160)))))else(some (v151))).bind fun v152=>(bif decide (v152=0)then((c32 F (v141,v142)).bind fun v156=>(c32 F (v141,v143)).bind fun v157=>(c48 F (v141,v156.1,v157.1,a.2.2)).bind fun v158=>some (v158))else(some (Qa ByteArray))).bind fun v153=>(bif decide (v145.2=v152)then((c44 F (v145.1,v153)).bind fun v155=>bif v155 then(some (true))else(some (false)))else(some (false))).bind fun v154=>some (v154))).bind fun v140=>gd (Qt.eqv (Qe.val Ty.bool::Qa Qe) v139 v140) (some (v139))
noncomputable def pc6(F:Nat):PC:={ats:=[.agg Xs,.agg [.seq Xq,.seq Xq],.val (.str)],rts:=Xn,code:=c6 F}
theorem Ykq(F:Nat):Qg cx 6 (pc6 F):=qE (lx6 F) (Q7 2 (.two (.two (.join [(.normal,⟨[.slot 43 (.val (.bool))],[]⟩)] ⟨(kD 43 18 []),[],[]⟩ .leaf) .leaf) (Q7 2 (.two (.two .leaf (.join [(.normal,⟨[.slot 12 (.val (.int .i64))],[]⟩)] ⟨(12::kD 79 10 []),[],[]⟩ .leaf)) (.two .leaf (.two (.two .leaf (.join [(.normal,⟨[.slot 13 (.val (.seq Ze))],[]⟩)] ⟨[89,90,91,88,92,93,16,17,13,98,97,96,95,94,15,14,87,86,82,85,84,83],[],[]⟩ .leaf)) (.two (.join [(.normal,⟨[.slot 6 (.val (.bool))],[]⟩)] ⟨(6::kD 109 11 []),[],[]⟩ .leaf) .leaf))))))) f6 (by kernel_rfl) fun a=>by kernel_rfl
abbrev Zde:Ty:=.seq [.int .i64,.str,.str,.str,.str,.str,.int .i64,.int .i64,.str,.int .i64,.str,.seq Ze]
def aE(l:List Ya):Int:=if 256<l.length then 5 else Qn (l.map Yz)
theorem Qzr(m:Mt)(l:List Ya):rE m l=Qn [Z4 m,aE l]:=rfl
theorem Zso(m:Mt)(l1 l2:List Ya)(c:ByteArray):chE m l1 l2 c=if Qn [Z4 m,aE l1,aE l2,if cI m c<0 then 10 else 0]=0 then(if 0<(Ut m c).2.2.2.2.2.2.2.2.2.2 then 13 else 0)else Qn [Z4 m,aE l1,aE l2,if cI m c<0 then 10 else 0]:=by
 unfold chE;rw[Qzr,Qzr];generalize Z4 m=x;generalize aE l1=y;generalize aE l2=z;generalize (if 0<(Ut m c).2.2.2.2.2.2.2.2.2.2 then(13:Int)else 0)=w;generalize (if cI m c<0 then(10:Int)else 0)=v;by_cases h1:x=0
 ·by_cases h2:y=0
  ·by_cases h3:z=0
   ·by_cases h4:v=0
    ·by_cases h5:w=0<;>simp[Qn,h1,h2,h3,h4,h5]
    ·simp[Qn,h1,h2,h3,h4]
   ·simp[Qn,h1,h2,h3]
  ·simp[Qn,h1,h2]
 ·simp[Qn,h1]
theorem Zzo{m:Mt}{s s':Qi}(h:ByA m s)(h':ByA m s')(c:ByteArray):(chS m s s' c).length<=40:=by
 unfold chS chA;rw[Qkm,List.length_append];have h1:∀{s:Qi} (h:ByA m s),(X6 s c).length<=20:=fun{s} h=>by unfold X6;rw[List.length_map];exact h.list c
 have h2:=List.length_filter_le (fun k=>!decide (Ye (Yn m s c) k=Ye (Yn m s' c) k)) (X6 s c);have h3:=List.length_filter_le (fun k=>decide (Ye (Yn m s c) k=0)) (X6 s' c);have:=h1 h;have:=h1 h';omega
theorem Ypa(a:Mt×(List Ya×List Ya)×ByteArray)(hok:Qt.ok [atM,.agg [Zde,Zde],.val .str] a):∃F,c6 F a=some true:=by
 obtain⟨m,⟨l1,l2⟩,c⟩:=a;obtain⟨k1,⟨k2,k3⟩,k4⟩:=hok;have hmb:m.2.2.2.2.length*128<=140737488355328:=okM k1;have hl1:l1.length*168<=140737488351232:=(okL k2).1;have hl2:l2.length*168<=140737488351232:=(okL k3).1;have hd:Zd=dC:=rfl;refine⟨m.2.2.2.2.length+l1.length+l2.length+100000,?_⟩;generalize hF:m.2.2.2.2.length+l1.length+l2.length+100000=F;have r1:100000<=F:=by omega
 have r2:m.2.2.2.2.length<F:=by omega
 have r3:l1.length<F:=by omega
 have r4:l2.length<F:=by omega
 have hF4:400<=F:=by omega
 have hF7:700<=F:=by omega
 clear hF;obtain⟨b1,h1,h1'⟩:=l17 r2 hmb;obtain⟨b2,h2,h2'⟩:=l28 hF4 r3 (by omega) (n:=24) (by decide);obtain⟨b3,h3,h3'⟩:=l28 hF4 r4 (by omega) (n:=24) (by decide);have h2:c28 F (l1,24)=some b2:=h2;have h3:c28 F (l2,24)=some b3:=h3;unfold c6 tw;simp only[Zj,l15 r2 hmb,l27 r3 (show l1.length*168<=140737488355328 by omega),l27 r4 (show l2.length*168<=140737488355328 by omega),h1,h2,h3,j];cases b1 with
 |false=>rfl
 |true=>
  cases b2 with
  |false=>rfl
  |true=>
   cases b3 with
   |false=>rfl
   |true=>
    have hM:=h1' rfl;have hL1:=h2' rfl;have hL2:=h3' rfl;have q1:=hL1.len (by decide);have q2:=hL2.len (by decide);have f1:Qcx l1:=hL1.n;have f2:Qcx l2:=hL2.n;have e4:∀a b d e,c30 F (a::b::d::e::Qa Int)=some (Qn [a,b,d,e]):=fun a b d e=>l30 (by simp[Qa];omega) (by simp[Qa]);simp only[Bool.not_true,cond_false,j];by_cases hc:(60:Int)<c.size
    ·simp only[hc,decide_true,cond_true,j,o,Q3];rfl
    ·have hmL:=hM.len;have e47:c47 F (m,c)=some (cI m c):=l47 r2 (by omega) c;have ea1:(if 256<l1.length then 5 else Qn (l1.map Yz))=aE l1:=rfl;have ea2:(if 256<l2.length then 5 else Qn (l2.map Yz))=aE l2:=rfl;simp only[hc,decide_false,cond_false,j,l46 hF7 hM.len hM.bd f1 f2 hL1.s hL2.s,l22 hF4 hM.len,l31 hF7 q1 hL1.s,l31 hF7 q2 hL2.s,ea1,ea2,e47,l39,decide_eq_true_eq,e4,hd];have hE:=Zso m l1 l2 c;generalize hB:Qn [Z4 m,aE l1,aE l2,if cI m c<0 then 10 else 0]=B at hE;by_cases hB0:B=0
     ·subst hB0;have z1:=Y1 hB (Z4 m) (by simp);have z2:=Y1 hB (aE l1) (by simp);have z3:=Y1 hB (aE l2) (by simp);have z4:0<=cI m c:=by
       have:=Y1 hB (if cI m c<0 then 10 else 0) (by simp);by_cases h:cI m c<0
       ·rw[if_pos h]at this;exact absurd this (by decide)
       ·omega
      rw[if_pos rfl]at hE;obtain⟨kj,ky,kj1,kj2,-,-⟩:=Wl z4;have kj1:cI m c=(kj:Int):=kj1;have hcat:m.2.2.2.2.getD kj dC=Ut m c:=by rw[Qz6 z4];unfold Zh;rw[kj1];rfl
      simp(disch:=omega)only[decide_true,cond_true,Zf,kj1,Int.toNat_natCast,hcat,j];rw[<-hE];by_cases hE0:chE m l1 l2 c=0
      ·obtain⟨y1,y2,y3,y4⟩:=Zej hE0;have b1:=Qrh f1 hL1.s y1;have b2:=Qrh f2 hL2.s y2;have o1:Qq9 l1:=⟨by unfold aE at z2;by_cases h:256<l1.length;(rw[if_pos h]at z2;exact absurd z2 (by decide));omega,hL1.s,fun a ha=>Y1 (by unfold aE at z2;by_cases h:256<l1.length;(rw[if_pos h]at z2;exact absurd z2 (by decide));rw[if_neg h]at z2;exact z2) _ (List.mem_map.2 ⟨a,ha,rfl⟩)⟩;have o2:Qq9 l2:=⟨by unfold aE at z3;by_cases h:256<l2.length;(rw[if_pos h]at z3;exact absurd z3 (by decide));omega,hL2.s,fun a ha=>Y1 (by unfold aE at z3;by_cases h:256<l2.length;(rw[if_pos h]at z3;exact absurd z3 (by decide));rw[if_neg h]at z3;exact z3) _ (List.mem_map.2 ⟨a,ha,rfl⟩)⟩;have hlen:=Zzo b1 b2 c;have e48:=l48 hF4 hM.len b1 b2 y3;have e32a:c32 F (m,l1)=some (rS m l1,(l1.foldl (rpS m) rp0).2.1):=l32 hF7 hM.len z1 o1;have e32b:c32 F (m,l2)=some (rS m l2,(l2.foldl (rpS m) rp0).2.1):=l32 hF7 hM.len z1 o2;simp only[hE0,decide_true,cond_true,if_true,e32a,e32b,j,Zyx,e48,l44 (F:=F) (l:=chS m (rS m l1) (rS m l2) c) (by omega) (by omega),o,Q3];rfl
      ·have e44:c44 F ([],Qa ByteArray)=some true:=l44 (by simp;omega) (by simp);simp only[hE0,decide_true,decide_false,cond_true,cond_false,if_false,e44,j,o,Q3];rfl
     ·rw[if_neg hB0]at hE;have e44:c44 F ([],Qa ByteArray)=some true:=l44 (by simp;omega) (by simp);simp only[hE,hB0,decide_true,decide_false,cond_true,cond_false,if_false,e44,j,o,Q3];rfl
end Go.Proofs.Tryz
