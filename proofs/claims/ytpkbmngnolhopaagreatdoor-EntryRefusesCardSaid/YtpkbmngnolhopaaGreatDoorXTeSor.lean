/- slices.Sort in this program is the library's. Replay, and slices.Sort. And further parts. -/
import Derived.Test.YtpkbmngnolhopaaGreatDoorXTeCx
import Derived.Test.YtpkbmngnolhopaaGreatDoorXSxPr
import Derived.Test.YtpkbmngnolhopaaGreatDoorXTeR
import Derived.Test.YtpkbmngnolhopaaGreatDoorXT4c
import Derived.Test.YtpkbmngnolhopaaGreatDoorXSxQf
import Derived.Sort.Walk0
set_option maxRecDepth 100000
set_option linter.all false
set_option linter.unusedVariables false
set_option linter.unusedSimpArgs false
open Option renaming bind_some->I
open List renaming length_singleton->J,length->R,length_append->U,length_map->ZA,getElem?_eq_getElem->ZC,mem_append->ZE,mem_cons_self->ZG,mem_singleton->ZI,getElem_mem->ZJ
open Go.IntKind renaming i64->ZB
open Bool renaming and_self->ZD,and_true->ZF,false_eq_true->ZH
namespace Go.Proofs.Tryz
open Go Go.Sx
def Ziw:Go.Shelf.Ren:=⟨fun|6=>133|8=>198|9=>197|19=>237|20=>238|21=>228|22=>229|23=>230|24=>231|25=>232|26=>233|27=>234|28=>235|29=>236|36=>244|31=>245|32=>246|37=>247|38=>248|39=>249|41=>255|n=>n,fun|0=>0|3=>3|4=>4|5=>5|9=>9|26=>25|27=>25|29=>9|32=>249|35=>268|36=>269|41=>273|44=>276|46=>278|53=>282|57=>286|63=>292|64=>293|n=>n,fun|n=>n⟩
theorem Ybj:Go.Proofs.SlLaysM.n6 cx.P Ziw:={
 mixed:=by kernel_rfl
 f6:=⟨Tryz.f133.name,by decide,Tryz.func133.trans (congrArg some (by kernel_rfl))⟩
 f8:=Tryz.func198.trans (congrArg some (by kernel_rfl))
 f9:=⟨Tryz.f197.name,by decide,Tryz.func197.trans (congrArg some (by kernel_rfl))⟩
 f19:=Tryz.func237.trans (congrArg some (by kernel_rfl))
 f20:=Tryz.func238.trans (congrArg some (by kernel_rfl))
 f21:=⟨Tryz.f228.name,by decide,Tryz.func228.trans (congrArg some (by kernel_rfl))⟩
 f22:=⟨Tryz.f229.name,by decide,Tryz.func229.trans (congrArg some (by kernel_rfl))⟩
 f23:=⟨Tryz.f230.name,by decide,Tryz.func230.trans (congrArg some (by kernel_rfl))⟩
 f24:=⟨Tryz.f231.name,by decide,Tryz.func231.trans (congrArg some (by kernel_rfl))⟩
 f25:=⟨Tryz.f232.name,by decide,Tryz.func232.trans (congrArg some (by kernel_rfl))⟩
 f26:=⟨Tryz.f233.name,by decide,Tryz.func233.trans (congrArg some (by kernel_rfl))⟩
 f27:=⟨Tryz.f234.name,by decide,Tryz.func234.trans (congrArg some (by kernel_rfl))⟩
 f28:=⟨Tryz.f235.name,by decide,Tryz.func235.trans (congrArg some (by kernel_rfl))⟩
 f29:=⟨Tryz.f236.name,by decide,Tryz.func236.trans (congrArg some (by kernel_rfl))⟩
 f31:=Tryz.func245.trans (congrArg some (by kernel_rfl))
 f32:=Tryz.func246.trans (congrArg some (by kernel_rfl))
 f36:=⟨Tryz.f244.name,by decide,Tryz.func244.trans (congrArg some (by kernel_rfl))⟩
 f37:=⟨Tryz.f247.name,by decide,Tryz.func247.trans (congrArg some (by kernel_rfl))⟩
 f38:=⟨Tryz.f248.name,by decide,Tryz.func248.trans (congrArg some (by kernel_rfl))⟩
 f39:=⟨Tryz.f249.name,by decide,Tryz.func249.trans (congrArg some (by kernel_rfl))⟩
 f41:=⟨Tryz.f255.name,by decide,Tryz.func255.trans (congrArg some (by kernel_rfl))⟩
 t0:=Tryz.underlying0
 a0:=Tryz.isAgg0
 z0:=Tryz.sizeOf0
 v0:=Tryz.zeroValue0
 t3:=Tryz.underlying3
 a3:=Tryz.isAgg3
 z3:=Tryz.sizeOf3
 v3:=Tryz.zeroValue3
 t4:=Tryz.underlying4
 a4:=Tryz.isAgg4
 z4:=Tryz.sizeOf4
 v4:=Tryz.zeroValue4
 t5:=Tryz.underlying5
 a5:=Tryz.isAgg5
 z5:=Tryz.sizeOf5
 v5:=Tryz.zeroValue5
 t9:=Tryz.underlying9
 a9:=Tryz.isAgg9
 z9:=Tryz.sizeOf9
 v9:=Tryz.zeroValue9
 t26:=Tryz.underlying25
 a26:=Tryz.isAgg25
 z26:=Tryz.sizeOf25
 v26:=Tryz.zeroValue25
 t27:=Tryz.underlying25
 a27:=Tryz.isAgg25
 z27:=Tryz.sizeOf25
 v27:=Tryz.zeroValue25
 t29:=Tryz.underlying9
 a29:=Tryz.isAgg9
 z29:=Tryz.sizeOf9
 v29:=Tryz.zeroValue9
 t32:=Tryz.underlying249
 a32:=Tryz.isAgg249
 z32:=Tryz.sizeOf249
 v32:=Tryz.zeroValue249
 t35:=Tryz.underlying268
 a35:=Tryz.isAgg268
 z35:=Tryz.sizeOf268
 v35:=Tryz.zeroValue268
 t36:=Tryz.underlying269
 a36:=Tryz.isAgg269
 z36:=Tryz.sizeOf269
 v36:=Tryz.zeroValue269
 t41:=Tryz.underlying273
 a41:=Tryz.isAgg273
 z41:=Tryz.sizeOf273
 v41:=Tryz.zeroValue273
 t44:=Tryz.underlying276
 a44:=Tryz.isAgg276
 z44:=Tryz.sizeOf276
 v44:=Tryz.zeroValue276
 t46:=Tryz.underlying278
 a46:=Tryz.isAgg278
 z46:=Tryz.sizeOf278
 v46:=Tryz.zeroValue278
 t53:=Tryz.underlying282
 a53:=Tryz.isAgg282
 z53:=Tryz.sizeOf282
 v53:=Tryz.zeroValue282
 t57:=Tryz.underlying286
 a57:=Tryz.isAgg286
 z57:=Tryz.sizeOf286
 v57:=Tryz.zeroValue286
 t63:=Tryz.underlying292
 a63:=Tryz.isAgg292
 z63:=Tryz.sizeOf292
 v63:=Tryz.zeroValue292
 t64:=Tryz.underlying293
 a64:=Tryz.isAgg293
 z64:=Tryz.sizeOf293
 v64:=Tryz.zeroValue293}
theorem Ygc:Qbu cx 133 Qzg:=Zx2 (ρ0:=Ziw) rfl ⟨f133,by kernel_rfl⟩ Ybj
end Go.Proofs.Tryz
section

end
namespace Go.Proofs.Tryz
open Go Go.Sx
noncomputable def Yh7(F:Nat):LK:=lS Ygc (lC (Yb F) (lC (Yj F) (lC (Ql4 F) (lC (Ux F) (lC (Qct F) (lC (Zbd F) (lB [(217,Wg (Qs f217))])))))))
noncomputable def c46(F:Nat)(a:(Zr)×List (Q4)×List (Q4)×ByteArray):Option (List ByteArray×Int):=
 (c29 F (a.1,a.2.1)).bind fun v103=>(c29 F (a.1,a.2.2.1)).bind fun v104=>(Qa3 F (a.1,a.2.2.2)).bind fun v105=>(Qn F (!v105.2,(10:Int))).bind fun v106=>(Qn F (decide (0<v105.1.2.2.2.2.2.2.2.2.2.2),(13:Int))).bind fun v107=>(Qy F (v103.2.2::v104.2.2::v106::v107::Qa Int)).bind fun v108=>bif !decide (v108=0)then(some ((Qa ByteArray,v108)))else((Qb1 F (v103.1,v105.1.1)).bind fun v109=>(Qx (O:=List (ByteArray×Bool)×List (ByteArray×Int)×Int×Int) (β:=List (ByteArray×Bool)×List (ByteArray×Int)) (fun v137=>bif decide (v137.2.2.2<(↑(v109.length):Int))then(gd (decide (0<=v137.2.2.2)) (gd (decide (v137.2.2.2<(↑(v109.length):Int))) (gd (decide (v137.2.2.2.toNat<v109.length)) ((Qcg F (v103.1,(v109.getD (v137.2.2.2.toNat) Zk).1)).bind fun v138=>(bif decide (v137.2.2.1<v105.1.2.2.2.2.2.1)then(some (decide (Y6 Qc v138 v137.2.1 (0:Int)<v105.1.2.2.2.2.2.2.1)))else(some (false))).bind fun v139=>(bif v139 then(some ((Jf Qc v138 (w64 (Y6 Qc v138 v137.2.1 (0:Int)+(1:Int))) v137.2.1,w64 (v137.2.2.1+1))))else(some ((v137.2.1,v137.2.2.1)))).bind fun v140=>some (Sum.inl (Jf Qc (v109.getD (v137.2.2.2.toNat) Zk).1 v139 v137.1,v140.1,v140.2,w64 (v137.2.2.2+1)))))))else(some (Sum.inr (v137.1,v137.2.1)))) F ((Qa (ByteArray×Bool),Qa (ByteArray×Int),(0:Int),(0:Int)))).bind fun v110=>(Qb1 F (v104.1,v105.1.1)).bind fun v111=>(Qx (O:=List (ByteArray×Bool)×List (ByteArray×Int)×Int×Int) (β:=List (ByteArray×Bool)×List (ByteArray×Int)) (fun v133=>bif decide (v133.2.2.2<(↑(v111.length):Int))then(gd (decide (0<=v133.2.2.2)) (gd (decide (v133.2.2.2<(↑(v111.length):Int))) (gd (decide (v133.2.2.2.toNat<v111.length)) ((Qcg F (v104.1,(v111.getD (v133.2.2.2.toNat) Zk).1)).bind fun v134=>(bif decide (v133.2.2.1<v105.1.2.2.2.2.2.1)then(some (decide (Y6 Qc v134 v133.2.1 (0:Int)<v105.1.2.2.2.2.2.2.1)))else(some (false))).bind fun v135=>(bif v135 then(some ((Jf Qc v134 (w64 (Y6 Qc v134 v133.2.1 (0:Int)+(1:Int))) v133.2.1,w64 (v133.2.2.1+1))))else(some ((v133.2.1,v133.2.2.1)))).bind fun v136=>some (Sum.inl (Jf Qc (v111.getD (v133.2.2.2.toNat) Zk).1 v135 v133.1,v136.1,v136.2,w64 (v133.2.2.2+1)))))))else(some (Sum.inr (v133.1,v133.2.1)))) F ((Qa (ByteArray×Bool),Qa (ByteArray×Int),(0:Int),(0:Int)))).bind fun v112=>(Vj (O:=(Nat×List Nat)×List ByteArray) (β:=(Nat×List Nat)×List ByteArray) (Y:=List ByteArray×Int) (Qt.eqv (Qe.val (Ty.seq Z3)::Qe.val (Ty.int ZB)::Qa Qe)) (fun v114=>(v110.1.length,v114.1.2)) (fun v115=>gd (decide (v115.1.1=v110.1.length)) ((gd (decide (v115.2.length=v115.2.length)&&true&&(true&&true)) (some ((v115.1,v115.2)))).bind fun v116=>some (Sum.inr v116))) (fun v128 (v129:Nat)=>gd (decide (v128.1.1=v110.1.length)) (gd (decide (v128.1.1=v110.1.length)) (gd (decide (0<R (v128.1.2++v129::Qa Nat))) (gd (decide (X2 (v128.1.2++v129::Qa Nat)<v110.1.length)) ((bif !Wc Qc (v110.1.getD (X2 (v128.1.2++v129::Qa Nat)) YQ).1 v112.1 then(some (true))else(some (!Y6 Qc (v110.1.getD (X2 (v128.1.2++v129::Qa Nat)) YQ).1 v112.1 false==(v110.1.getD (X2 (v128.1.2++v129::Qa Nat)) YQ).2))).bind fun v130=>(bif v130 then(gd (decide (v128.2.length=v128.2.length)) (gd (decide (R (v128.2++(v110.1.getD (X2 (v128.1.2++v129::Qa Nat)) YQ).1::Qa ByteArray)*(16:Nat)<=(140737488355328:Nat))) (gd (decide (R (v128.2++(v110.1.getD (X2 (v128.1.2++v129::Qa Nat)) YQ).1::Qa ByteArray)<=9223372036854775807)) (gd (decide (R (v128.2++(v110.1.getD (X2 (v128.1.2++v129::Qa Nat)) YQ).1::Qa ByteArray)=R (v128.2++(v110.1.getD (X2 (v128.1.2++v129::Qa Nat)) YQ).1::Qa ByteArray))&&true&&true) (some (v128.2++(v110.1.getD (X2 (v128.1.2++v129::Qa Nat)) YQ).1::Qa ByteArray))))))else(gd (decide (v128.2.length=v128.2.length)&&true&&true) (some v128.2))).bind fun v131=>(gd (decide (v131.length=v131.length)&&true&&(true&&true)) (some (((v128.1.1,v128.1.2++v129::Qa Nat),v131)))).bind fun v132=>some (Sum.inl v132)))))) (fun v117=>(gd (decide (v117.2.length=v117.2.length)&&true&&(true&&true)) (some ((v117.2,v112.1.length,Qa Nat)))).bind fun v118=>(Vj (O:=List ByteArray×Nat×List Nat) (β:=List ByteArray×Nat×List Nat) (Y:=List ByteArray×Int) (Qt.eqv (Qe.val (Ty.seq Z3)::Qe.val (Ty.int ZB)::Qa Qe)) (fun v120=>(v112.1.length,v120.2.2)) (fun v121=>gd (decide (v121.2.1=v112.1.length)) ((gd (decide (v121.1.length=v121.1.length)&&true&&(true&&true)) (some (v121))).bind fun v122=>some (Sum.inr v122))) (fun v124 (v125:Nat)=>gd (decide (v124.2.1=v112.1.length)) (gd (decide (v124.2.1=v112.1.length)) (gd (decide (0<R (v124.2.2++v125::Qa Nat))) (gd (decide (X2 (v124.2.2++v125::Qa Nat)<v112.1.length)) ((bif !Wc Qc (v112.1.getD (X2 (v124.2.2++v125::Qa Nat)) YQ).1 v110.1 then(gd (decide (v124.1.length=v124.1.length)) (gd (decide (R (v124.1++(v112.1.getD (X2 (v124.2.2++v125::Qa Nat)) YQ).1::Qa ByteArray)*(16:Nat)<=(140737488355328:Nat))) (gd (decide (R (v124.1++(v112.1.getD (X2 (v124.2.2++v125::Qa Nat)) YQ).1::Qa ByteArray)<=9223372036854775807)) (gd (decide (R (v124.1++(v112.1.getD (X2 (v124.2.2++v125::Qa Nat)) YQ).1::Qa ByteArray)=R (v124.1++(v112.1.getD (X2 (v124.2.2++v125::Qa Nat)) YQ).1::Qa ByteArray))&&true&&true) (some (v124.1++(v112.1.getD (X2 (v124.2.2++v125::Qa Nat)) YQ).1::Qa ByteArray))))))else(gd (decide (v124.1.length=v124.1.length)&&true&&true) (some v124.1))).bind fun v126=>(gd (decide (v126.length=v126.length)&&true&&(true&&true)) (some ((v126,v124.2.1,v124.2.2++v125::Qa Nat)))).bind fun v127=>some (Sum.inl v127)))))) (fun v123=>gd (true&&(true&&(decide (v123.1.length=v123.1.length)&&decide (v123.1.length<4611686018427387904)))) (gd (decide ((0:Nat)+v123.1.length<=R (Yq v123.1))&&true) (some ((List.take (v123.1.length) (List.drop (0:Nat) (Yq v123.1)),(0:Int)))))) F (v118)).bind fun v119=>some (v119)) F (((v110.1.length,Qa Nat),Qa ByteArray))).bind fun v113=>some (v113))
noncomputable def Yie(F:Nat):PC:={ats:=[.agg Xo,.val (.seq Xd),.val (.seq Xd),.val (.str)],rts:=Qog,code:=c46 F}
theorem Zm2(F:Nat):Qg cx 46 (Yie F):=qE (Yh7 F) (Q8 5 (.two (.within [(60000132,(Q8 2 (.two (.two (.within [(196,.leaf)]) (.one (.within [(150000227,(Q8 3 (.one (.loop ⟨[.map 7 (.val (.str)) (.val (.bool)),.map 14 (.val (.str)) (.val (.int .i64)),.slot 5 (.val (.int .i64)),.slot 14 (.val (.int .i64))],[]⟩ [(.exit 0,⟨[.map 7 (.val (.str)) (.val (.bool)),.map 14 (.val (.str)) (.val (.int .i64))],[]⟩)] ⟨[46,14,18,19,20,21,9,34,37,38,39,40,5,36,35,45,44,43,42,41,10,33,32,31,30,29,28,27,26,25,24,23,22,8,17,16,15],[7,14],[]⟩ F (Q8 2 (.two (.one (Q8 2 (.two (.join [(.normal,⟨[.slot 10 (.val (.bool))],[]⟩)] ⟨(10::kD 33 12 []),[],[]⟩ .leaf) (.two (.two .leaf (.join [(.normal,⟨[.map 14 (.val (.str)) (.val (.int .i64)),.slot 5 (.val (.int .i64))],[]⟩)] ⟨[37,38,39,40,5,36,35],[14],[]⟩ .leaf)) (.two (.within [(1000013,.leaf)]) .leaf))))) .leaf))))))]))) .leaf))),(150000132,(Q8 2 (.two (.two (.within [(196,.leaf)]) (.one (.within [(240000227,(Q8 3 (.one (.loop ⟨[.map 16 (.val (.str)) (.val (.bool)),.map 23 (.val (.str)) (.val (.int .i64)),.slot 5 (.val (.int .i64)),.slot 14 (.val (.int .i64))],[]⟩ [(.exit 0,⟨[.map 16 (.val (.str)) (.val (.bool)),.map 23 (.val (.str)) (.val (.int .i64))],[]⟩)] ⟨[46,14,18,19,20,21,9,34,37,38,39,40,5,36,35,45,44,43,42,41,10,33,32,31,30,29,28,27,26,25,24,23,22,8,17,16,15],[16,23],[]⟩ F (Q8 2 (.two (.one (Q8 2 (.two (.join [(.normal,⟨[.slot 10 (.val (.bool))],[]⟩)] ⟨(10::kD 33 12 []),[],[]⟩ .leaf) (.two (.two .leaf (.join [(.normal,⟨[.map 23 (.val (.str)) (.val (.int .i64)),.slot 5 (.val (.int .i64))],[]⟩)] ⟨[37,38,39,40,5,36,35],[23],[]⟩ .leaf)) (.two (.within [(1000022,.leaf)]) .leaf))))) .leaf))))))]))) .leaf)))]) (.two .leaf (.two (.two .leaf (.one (.virt 21 9 Z3 (.mloop ⟨[.mit 23 7,.vec 24 9 Z3],[(21,.own 24)]⟩ [(.exit 0,⟨[.mit 23 7,.vec 24 9 Z3],[(21,.own 24)]⟩)] ⟨[77,78,79,76,80,81,24,25,89,90,91,92,21,88,87,86,85,84,83,82,23,22,75,74,73,72,71],[23,24],[24]⟩ F (.two .leaf (.one (Q8 2 (.two (.join [(.normal,⟨[.slot 88 (.val (.bool))],[]⟩)] ⟨(kD 88 7 []),[],[]⟩ .leaf) (.join [(.normal,⟨[.vec 24 9 Z3],[(21,.own 24)]⟩)] ⟨[21,92,91,90,89],[24],[24]⟩ .leaf))))))))) (.two (.two .leaf (.one (.mloop ⟨[.vec 24 9 Z3,.mit 25 16],[(21,.own 24)]⟩ [(.exit 2,⟨[.vec 24 9 Z3,.mit 25 16],[(21,.own 24)]⟩)] ⟨[100,101,102,99,103,104,27,28,107,108,109,110,21,106,105,26,98,97,96,95],[25,24],[24]⟩ F (.two .leaf (.one (Q8 3 (.join [(.normal,⟨[.vec 24 9 Z3],[(21,.own 24)]⟩)] ⟨[21,110,109,108,107],[24],[24]⟩ .leaf))))))) .leaf))))) f46 (by kernel_rfl) fun a=>by kernel_rfl
theorem Zju{V:Type}(p:ByteArray->Bool)(M:List (ByteArray×V)):(M.filter fun e=>p e.1).map (·.1)=(M.map (·.1)).filter p:=by rw[List.filter_map];rfl
def chA(ids ids':List ByteArray)(d d':Dv):List ByteArray:=(ids.filter fun k=>!decide (whr d k=whr d' k))++ids'.filter fun k=>decide (whr d k=0)
def chS(m:Mt)(s s':Qh)(c:ByteArray):List ByteArray:=Yq (chA (Xt s c) (Xt s' c) (We m s c) (We m s' c))
theorem Zb4{γ:Type}{m:Mt}{s:Qh}{c:ByteArray}{P C:Int}{step:List (ByteArray×Bool)×List (ByteArray×Int)×Int×Int->Option ((List (ByteArray×Bool)×List (ByteArray×Int)×Int×Int) ⊕ (List (ByteArray×Bool)×List (ByteArray×Int)))}{F:Nat}{K:List (ByteArray×Bool)×List (ByteArray×Int)->Option γ}{r:Option γ}
  (h:ByA m s) (hF:400<=F)
  (hstep:∀(i:Nat) (x:Qr) (q:Pq),i<(X3 s c).length->i<20->(X3 s c)[i]? =some x->0<=aI s x.1->PqI s P C (X3 s c) i q->step (q.1,q.2.1,(q.2.2.2.1.length:Int),(i:Int))=some (.inl ((pqS s P C q x).1,(pqS s P C q x).2.1,((pqS s P C q x).2.2.2.1.length:Int),(i:Int)+1)))
  (hend:∀q:Pq,PqI s P C (X3 s c) (X3 s c).length q->step (q.1,q.2.1,(q.2.2.2.1.length:Int),((X3 s c).length:Int))=some (.inr (q.1,q.2.1)))
  (hK:∀M Q,PlR (Xt s c) (Qbo s P C (X3 s c)) M->K (M,Q)=r):Option.bind (Qx step F (Qa (ByteArray×Bool),Qa (ByteArray×Int),0,0)) K=r:=by
 have hl:=h.list c;have hn:((X3 s c).map (·.1)).Nodup:=Qjx h.ok c;obtain⟨q,hq,e⟩:=Zeg (step:=step) (X3 s c) (fun(q:Pq) (i:Nat)=>(q.1,q.2.1,(q.2.2.2.1.length:Int),(i:Int))) (fun q x=>pqS s P C q x) (fun q=>(q.1,q.2.1)) (fun i q=>PqI s P C (X3 s c) i q)
  (fun i x q hi hx hI=>⟨hstep i x q hi (by omega) hx (Zbv h.st x (List.mem_of_getElem? hx)) hI,Ygl hn hx hI⟩) (fun q hI=>hend q hI) (X3 s c).length 0 F ([],[],[],[],[]) (by omega) (Ztl s P C _) (by omega)
 have e':Qx step F (Qa (ByteArray×Bool),Qa (ByteArray×Int),0,0)=some (q.1,q.2.1):=e;rw[e'];have hp:=hq.p;rw[hq.d,List.take_length]at hp;exact hK _ _ hp
def rE(m:Mt)(l:List Zw):Int:=Qi [Z9 m,if 256<l.length then 5 else Qi (l.map Y0)]
def chE(m:Mt)(l1 l2:List Zw)(c:ByteArray):Int:=Qi [rE m l1,rE m l2,if cI m c<0 then 10 else 0,if 0<(Vo m c).2.2.2.2.2.2.2.2.2.2 then 13 else 0]
def rS(m:Mt)(l:List Zw):Qh:=(l.foldl (Zg m) Z2).1
def Qcq(l:List Zw):Prop:=l.length<=24∨256<l.length∧l.length<=259
theorem Qwc{m:Mt}{l:List Zw}(hn:Qcq l)(hs:∀a∈l,Zy (a.1,a.2.2))(h:rE m l=0):ByA m (rS m l):=by
 have hv:Z9 m=0:=Xm h _ (ZG ..);have hz:=Xm h _ (List.mem_cons_of_mem _ (ZG ..));unfold Qcq at hn;have hn:l.length<=24:=by
  by_cases h:256<l.length
  ·rw[if_pos h]at hz;exact absurd hz (by decide)
  ·omega
 rw[if_neg (by omega)]at hz;exact Zyc hv hn hs fun a ha=>Xm hz _ (List.mem_map.2 ⟨a,ha,rfl⟩)
theorem Zwb{m:Mt}{l1 l2:List Zw}{c:ByteArray}(h:chE m l1 l2 c=0):rE m l1=0∧rE m l2=0∧0<=cI m c∧¬ 0<(Vo m c).2.2.2.2.2.2.2.2.2.2:=by
 have h1:=Xm h (rE m l1) (by simp);have h2:=Xm h (rE m l2) (by simp);have h3:=Xm h (if cI m c<0 then 10 else 0) (by simp);have h4:=Xm h (if 0<(Vo m c).2.2.2.2.2.2.2.2.2.2 then 13 else 0) (by simp);refine⟨h1,h2,?_,?_⟩
 ·by_cases h:cI m c<0
  ·rw[if_pos h]at h3;exact absurd h3 (by decide)
  ·omega
 ·intro h;rw[if_pos h]at h4;exact absurd h4 (by decide)
def r29(m:Mt)(l:List Zw):Qh×List (Int×Int)×Int:=if rE m l=0 then(rS m l,(l.foldl (Zg m) Z2).2.1,0)else(zS,[],rE m l)
theorem Zvp(m:Mt)(l:List Zw):(r29 m l).2.2=rE m l:=by
 unfold r29;by_cases h:rE m l=0
 ·rw[if_pos h,h]
 ·rw[if_neg h]
theorem Zkb{m:Mt}{l:List Zw}(h:rE m l=0):(r29 m l).1=rS m l:=by unfold r29;rw[if_pos h]
theorem Qou{F:Nat}(hF:700<=F){m:Mt}(hm:m.2.2.2.2.length<=300)(hb:∀x∈m.2.2.2.2,x.1.size<=300∧x.2.2.1.size<=300){l:List Zw}(hl:Qcq l)(hs:∀a∈l,Zy (a.1,a.2.2)):
  c29 F (m,l)=some (r29 m l):=l29 hF hm hb (by unfold Qcq at hl;omega) hs
theorem Ymd{F:Nat}(hF:400<=F){m:Mt}(hm:m.2.2.2.2.length<=300)(x:ByteArray):Qa3 F (m,x)=some (Vo m x,!decide (cI m x<0)):=by
 rw[Qjn hF hm];unfold Vo;by_cases h:cI m x<0
 ·simp[h]
 ·simp[h]
theorem Yhk{m:Mt}{c:ByteArray}(h:0<=cI m c):(Zl m c).1=c:=by obtain⟨j,y,h1,-,h2,h3⟩:=Wf h;have h1':cI m c=(j:Int):=h1;unfold Zl;rw[h1',Int.toNat_natCast,getD_some h2];exact Y1.1 h3
theorem Qgx(l:List ByteArray):(Yq l).length=l.length:=(Qvh l).length_eq
theorem l46{F:Nat}(hF:700<=F){m:Mt}(hm:m.2.2.2.2.length<=300)(hb:∀x∈m.2.2.2.2,x.1.size<=300∧x.2.2.1.size<=300){l1 l2:List Zw}(h1:Qcq l1)(h2:Qcq l2)(s1:∀a∈l1,Zy (a.1,a.2.2))(s2:∀a∈l2,Zy (a.1,a.2.2))(c:ByteArray):
  c46 F (m,l1,l2,c)=some (if chE m l1 l2 c=0 then(chS m (rS m l1) (rS m l2) c,0)else([],chE m l1 l2 c)):=by
 have hF4:400<=F:=by omega
 have e4:∀a b d e,Qy F (a::b::d::e::Qa Int)=some (Qi [a,b,d,e]):=fun a b d e=>X9 hF4 (by simp[Qa]);have tr:∀M:List (ByteArray×Bool),M.map (·.1)=M.map (·.1):=fun _=>rfl;unfold c46;simp only[Za,Qou hF hm hb h1 s1,Qou hF hm hb h2 s2,Ymd hF4 hm,Yt,I,Zvp,e4,Bool.not_not,decide_eq_true_eq];rw[show Qi [rE m l1,rE m l2,if cI m c<0 then 10 else 0,if 0<(Vo m c).2.2.2.2.2.2.2.2.2.2 then 13 else 0]=chE m l1 l2 c from rfl];by_cases h0:chE m l1 l2 c=0
 ·obtain⟨z1,z2,z3,z4⟩:=Zwb h0;have hct:=Zjg z3;have b1:=Qwc h1 s1 z1;have b2:=Qwc h2 s2 z2;have hnm:=Yhk z3;simp only[h0,decide_true,Bool.not_true,cond_false,if_true,Zkb z1,Zkb z2,hct,hnm,b1.l139 c hF4,I,Za];generalize hP:(Zl m c).2.2.2.2.2.1=P;generalize hC:(Zl m c).2.2.2.2.2.2.1=C;have loop:True:=trivial;refine Zb4 (c:=c) (P:=P) (C:=C) b1 hF4 ?_ ?_ ?_
  ·rintro i x ⟨M,Q,r,a,cl⟩ hi hi2 hx hkx ⟨q1,q2,q3,q4,q5⟩
   simp only at q1 q2 q3 q4 q5;have hc1:=q3 (Wz (rS m l1) x.1);have hc2:=Zhw cl (Wz (rS m l1) x.1);simp(disch:=omega)only[Z1,Ze,Int.toNat_natCast,tE,getD_some hx,Zu,Za,Qpf hF4 b1.sm hkx,hc1,hP,hC,I];by_cases p1:(a.length:Int)<P
   ·by_cases p2:(Qb8 cl (Wz (rS m l1) x.1):Int)<C
    ·have hd:inD (rS m l1) P C (r,a,cl) x=true:=by simp[inD,p1,p2]
     simp[p1,p2,hd,pqS,Xv,hc1]
    ·have hd:inD (rS m l1) P C (r,a,cl) x=false:=by simp[inD,p1,p2]
     simp[p1,p2,hd,pqS,Xv]
   ·have hd:inD (rS m l1) P C (r,a,cl) x=false:=by simp[inD,p1]
    simp[p1,hd,pqS,Xv]
  ·intro q hq;simp(disch:=omega)only[Zz]
  intro M1 Q1 p1;simp only[b2.l139 c hF4,I];refine Zb4 (c:=c) (P:=P) (C:=C) b2 hF4 ?_ ?_ ?_
  ·rintro i x ⟨M,Q,r,a,cl⟩ hi hi2 hx hkx ⟨q1,q2,q3,q4,q5⟩
   simp only at q1 q2 q3 q4 q5;have hc1:=q3 (Wz (rS m l2) x.1);have hc2:=Zhw cl (Wz (rS m l2) x.1);simp(disch:=omega)only[Z1,Ze,Int.toNat_natCast,tE,getD_some hx,Zu,Za,Qpf hF4 b2.sm hkx,hc1,hP,hC,I];by_cases p1:(a.length:Int)<P
   ·by_cases p2:(Qb8 cl (Wz (rS m l2) x.1):Int)<C
    ·have hd:inD (rS m l2) P C (r,a,cl) x=true:=by simp[inD,p1,p2]
     simp[p1,p2,hd,pqS,Xv,hc1]
    ·have hd:inD (rS m l2) P C (r,a,cl) x=false:=by simp[inD,p1,p2]
     simp[p1,p2,hd,pqS,Xv]
   ·have hd:inD (rS m l2) P C (r,a,cl) x=false:=by simp[inD,p1]
    simp[p1,hd,pqS,Xv]
  ·intro q hq;simp(disch:=omega)only[Zz]
  intro M2 Q2 p2;dsimp only;have n1:=Qjx b1.ok c;have n2:=Qjx b2.ok c;have g1:M1.length<=20:=by rw[<-ZA (f:=(·.1)),p1.k];unfold Xt;rw[ZA];exact b1.list c
  have g2:M2.length<=20:=by rw[<-ZA (f:=(·.1)),p2.k];unfold Xt;rw[ZA];exact b2.list c
  have hd1:Qbo (rS m l1) P C (X3 (rS m l1) c)=We m (rS m l1) c:=by unfold We;rw[hP,hC]
  have hd2:Qbo (rS m l2) P C (X3 (rS m l2) c)=We m (rS m l2) c:=by unfold We;rw[hP,hC]
  rw[hd1]at p1;rw[hd2]at p2;unfold chS;generalize We m (rS m l1) c=d1 at p1⊢;generalize We m (rS m l2) c=d2 at p2⊢;have hAE:∀y:List ByteArray×Int,Qt.eqv (Qe.val (Ty.seq Z3)::Qe.val (Ty.int ZB)::Qa Qe) y y=true:=fun y=>Qt.eqv_rf (Qe.val (Ty.seq Z3)::Qe.val (Ty.int ZB)::Qa Qe) y;have en:∀(l:List Nat) (j:Nat),l++j::Qa Nat=l++[j]:=fun _ _=>rfl;have eb:∀(l:List ByteArray) (x:ByteArray),l++x::Qa ByteArray=l++[x]:=fun _ _=>rfl;have w1:∀e∈M1,¬whr d1 e.1=0:=fun e he h=>by have:=p1.has e.1;rw[h,Qub.2 (List.mem_map.2 ⟨e,he,rfl⟩)]at this;cases this
  have v1:∀e∈M1,e.2=decide (whr d1 e.1=1):=fun e he=>by rw[<-p1.get n1 e.1,Qwd (by rw[p1.k];exact n1) he]
  refine Zho M1 (fun seen (out:List ByteArray)=>((M1.length,seen),out)) (fun out e=>if(!decide (whr d1 e.1=whr d2 e.1))=true then out++[e.1]else out) (fun out b=>b.2=out) ([]:List ByteArray) (fun n out=>out.length<=n) (Yq (chA (Xt (rS m l1) c) (Xt (rS m l2) c) d1 d2),0) rfl hAE (fun _ _=>rfl) (by omega) ?_ ?_ (Nat.le_refl _) ?_ rfl
  ·intro seen out j hj hjs hsl ho;have hb1:(out++[M1[j].1]).length<=21:=by rw[U,J];omega
   have hlen:(seen++[j]).length=seen.length+1:=by rw[U,J]
   have hc:(bif !Wc Qc M1[j].1 M2 then some true else some (!(Y6 Qc M1[j].1 M2 false==M1[j].2)))=some (!decide (whr d1 M1[j].1=whr d2 M1[j].1)):=by
    rw[p2.has,p2.get n2,v1 _ (ZJ hj)];have q0:=w1 _ (ZJ hj);rcases Zff d1 M1[j].1 with q1|q1|q1
    ·exact absurd q1 q0
    all_goals rcases Zff d2 M1[j].1 with q2|q2|q2<;>rw[q1,q2]<;>rfl
   simp(disch:=omega)only[en,eb,Zhr,getD_some (ZC hj),hc,Ze,hlen,I,decide_true,ZD,ZF,Zb];cases !decide (whr d1 M1[j].1=whr d2 M1[j].1)
   ·refine⟨by simp[Zb],?_⟩;simp only[ZH,if_false];omega
   ·refine⟨by simp[Zb],?_⟩;simp only[if_true,U,J];omega
  ·intro seen out hs ho;exact⟨((M1.length,seen),out),by simp[Zb],rfl⟩
  ·rintro l' hl' hP' ⟨_,out⟩ hout
   simp only at hout;rw[Qlx (fun e:ByteArray×Bool=>!decide (whr d1 e.1=whr d2 e.1)) (fun e=>e.1)]at hout;rw[Qlx (fun e:ByteArray×Bool=>!decide (whr d1 e.1=whr d2 e.1)) (fun e=>e.1)]at hP';rw[<-hout]at hP';simp only[decide_true,ZD,Zb,I];refine Zho M2 (fun seen (o:List ByteArray)=>(o,M2.length,seen)) (fun o e=>if(decide (whr d1 e.1=0))=true then o++[e.1]else o) (fun o b=>b.1=o) out (fun n o=>o.length<=20+n) (Yq (chA (Xt (rS m l1) c) (Xt (rS m l2) c) d1 d2),0) rfl hAE (fun _ _=>rfl) (by omega) ?_ ?_ (show out.length<=20+0 by omega) ?_ rfl
   ·intro seen o j hj hjs hsl ho;have hb1:(o++[M2[j].1]).length<=41:=by rw[U,J];omega
    have hlen:(seen++[j]).length=seen.length+1:=by rw[U,J]
    have hc:(!Wc Qc M2[j].1 M1)=decide (whr d1 M2[j].1=0):=by rw[p1.has,Bool.not_not]
    simp(disch:=omega)only[en,eb,Zhr,getD_some (ZC hj),hc,Ze,hlen,I,decide_true,ZD,ZF,Zb];cases decide (whr d1 M2[j].1=0)
    ·refine⟨by simp[Zb],?_⟩;simp only[ZH,if_false];omega
    ·refine⟨by simp[Zb],?_⟩;simp only[if_true,U,J];omega
   ·intro seen o hs ho;exact⟨(o,M2.length,seen),by simp[Zb],rfl⟩
   ·rintro l2' hl2' hP2 ⟨o,_⟩ ho
    simp only at ho;rw[Qlx (fun e:ByteArray×Bool=>decide (whr d1 e.1=0)) (fun e=>e.1)]at ho hP2;have hp:o.Perm (chA (Xt (rS m l1) c) (Xt (rS m l2) c) d1 d2):=by rw[ho,hout];unfold chA;rw[<-p1.k,<-p2.k,<-Zju,<-Zju];exact(((hl'.filter _).map _)).append ((hl2'.filter _).map _)
    have hl3:=Qgx o;rw[<-ho]at hP2;have hb5:decide (o.length<4611686018427387904)=true:=decide_eq_true (by omega);have hb6:decide (0+o.length<=(Yq o).length)=true:=decide_eq_true (by omega);simp only[hb5,hb6,ZD,ZF,Zb,I];rw[<-hl3,Yhf,Zr4 hp]
 ·simp only[h0,decide_false,Bool.not_false,cond_true,if_false];rfl
end Go.Proofs.Tryz
namespace Go.Sx
open Go
def bk(s:ByteArray):List UInt8:=s.data.toList
theorem Yea{a b:ByteArray}(h:bk a=bk b):a=b:=by cases a;cases b;simp only[bk]at h;simpa using h
theorem Zb6(s:ByteArray):s.toList=bk s:=by rw[ByteArray.toList_eq];rfl
def ltS(a b:ByteArray):Bool:=decide (bk a<bk b)
theorem Yks(a b:ByteArray):Go.Op.bytesLess a.toList b.toList=ltS a b:=by rw[Zb6,Zb6,Proofs.bytesLess_eq];rfl
theorem Zf1(a:ByteArray):ltS a a=false:=by simp[ltS]
theorem Ypy{a b c:ByteArray}(h:ltS a b=true)(k:ltS b c=true):ltS a c=true:=by simp only[ltS,decide_eq_true_eq]at*;exact List.lt_trans h k
def Qkf(l:List ByteArray):Prop:=l.Pairwise fun a b=>ltS a b=true
theorem Qkf.ext{l m:List ByteArray}(hl:Qkf l)(hm:Qkf m)(h:∀x,x∈l↔x∈m):l=m:=by
 have nd:∀{l:List ByteArray},Qkf l->l.Nodup:=fun hl=>hl.imp fun{a b} h e=>by subst e;rw[Zf1]at h;cases h
 refine List.Perm.eq_of_pairwise (le:=fun a b=>ltS a b=true) (fun a b _ _ h1 h2=>?_) hl hm ((List.perm_ext_iff_of_nodup (nd hl) (nd hm)).2 h);have:=Ypy h1 h2;rw[Zf1]at this;cases this
theorem Zw9{l:List ByteArray}(h:l.Nodup):Qkf (Yq l):=by
 have hn:(Yq l).Nodup:=((Qvh l).nodup_iff).2 h;have tot:∀(a b:List UInt8),(decide (a<=b)||decide (b<=a))=true:=fun a b=>by have:=List.le_total a b;simpa using this
 have trans:∀(a b c:List UInt8),decide (a<=b)=true->decide (b<=c)=true->decide (a<=c)=true:=fun a b c h1 h2=>by have h1:=of_decide_eq_true h1;have h2:=of_decide_eq_true h2;exact decide_eq_true (List.le_trans h1 h2)
 have hp:(Yq l).Pairwise fun a b=>decide (bk a<=bk b)=true:=by unfold Yq;rw[List.pairwise_map];refine(List.pairwise_mergeSort trans tot _).imp fun{a b} h=>?_;unfold bk;exact h
 refine(hp.and hn).imp fun{a b} h=>?_;obtain⟨h1,h2⟩:=h;have h1:=of_decide_eq_true h1;unfold ltS;refine decide_eq_true (Classical.byContradiction fun h3=>h2 (Yea (List.le_antisymm h1 (List.not_lt.1 h3))))
end Go.Sx
section
namespace Go.Proofs.Tryz
open Go Go.Sx
end Go.Proofs.Tryz
end
namespace Go.Proofs.Tryz
open Go Go.Sx
theorem Zd0{m:Mt}{s:Qh}(h:ByA m s)(c k:ByteArray):whr (We m s c) k≠0↔k∈Xt s c:=by
 have key:∀(L:List Qr) (d:Dv) (ids:List ByteArray),(∀k,k∈d.2.1∨k∈d.1↔k∈ids)->∀k,k∈(L.foldl (Xv s (Zl m c).2.2.2.2.2.1 (Zl m c).2.2.2.2.2.2.1) d).2.1∨k∈(L.foldl (Xv s (Zl m c).2.2.2.2.2.1 (Zl m c).2.2.2.2.2.2.1) d).1↔k∈ids++L.map (·.1):=by
  intro L;induction L with
  |nil=>intro d ids h k;rw[List.map_nil,List.append_nil];exact h k
  |cons x L ih=>
   intro d ids h k;rw[List.foldl_cons,List.map_cons,show ids++x.1::L.map (·.1)=(ids++[x.1])++L.map (·.1)by simp];refine ih _ _ (fun k=>?_) k;unfold Xv;have:=h k;split
   ·simp only[ZE,ZI,<-this];constructor
    ·rintro ((h|h)|h)
     ·exact .inl (.inl h)
     ·exact .inr h
     ·exact .inl (.inr h)
    ·rintro ((h|h)|h)
     ·exact .inl (.inl h)
     ·exact .inr h
     ·exact .inl (.inr h)
   ·simp only[ZE,ZI,<-this,or_assoc]
 have h1:=key (X3 s c) ([],[],[]) [] (fun k=>by simp) k;rw[List.nil_append]at h1;unfold Xt;rw[<-h1,<-Qkq,<-Qkq];unfold whr We Qbo;generalize hasB (List.foldl (Xv s (Zl m c).2.2.2.2.2.1 (Zl m c).2.2.2.2.2.2.1) ([],[],[]) (X3 s c)).2.1 k=b1;generalize hasB (List.foldl (Xv s (Zl m c).2.2.2.2.2.1 (Zl m c).2.2.2.2.2.2.1) ([],[],[]) (X3 s c)).1 k=b2;cases b1<;>cases b2<;>simp
theorem Zrf{m:Mt}{s s':Qh}(h:ByA m s)(h':ByA m s')(c k:ByteArray):k∈chA (Xt s c) (Xt s' c) (We m s c) (We m s' c)↔whr (We m s c) k≠whr (We m s' c) k:=by
 unfold chA;simp only[ZE,List.mem_filter,Bool.not_eq_true',decide_eq_false_iff_not,decide_eq_true_eq,<-Zd0 h,<-Zd0 h'];constructor
 ·rintro (⟨h1,h2⟩|⟨h1,h2⟩)
  ·exact h2
  ·rw[h2];exact fun e=>h1 e.symm
 ·intro h1;by_cases h2:whr (We m s c) k=0
  ·exact .inr ⟨fun e=>h1 (by rw[h2,e]),h2⟩
  ·exact .inl ⟨h2,h1⟩
end Go.Proofs.Tryz
