/- Plain law: first, bounds, names; hurdles. slices.Sorted(maps.Keys(m)) in this program is the library's. And further parts. -/
import Derived.Test.YtebmfbcngojbdaaGreatDoorXTkF
import Derived.Test.YtebmfbcngojbdaaGreatDoorXSxQh
import Derived.Test.YtebmfbcngojbdaaGreatDoorXTkCx
import Derived.Test.YtebmfbcngojbdaaGreatDoorXSxLt
set_option linter.unusedVariables false
set_option linter.unusedSimpArgs false
set_option maxRecDepth 1000000
namespace Go.Proofs.Tryz
open Go Go.Sx
def Zd:List Int→Int
 |[]=>0
 |x::l=>if x=0 then Zd l else x
theorem Zkw{l:List Int}{k:Nat}(hk:k<l.length):Zd (l.drop k)=if l.getD k 0=0 then Zd (l.drop (k+1))else l.getD k 0:=by rw[List.drop_eq_getElem_cons hk];simp only[Zd,List.getD,List.getElem?_eq_getElem hk,Option.getD_some]
theorem l25{F:Nat}{l:List Int}(hF:l.length<F)(hl:l.length≤1000):c25 F l=some (Zd l):=by
 unfold c25;obtain⟨b,h1,h2⟩:=Qpg (step:=fun(v13:Int)=>bif Decidable.decide (v13<(↑(List.length l):Int))then(gd (Decidable.decide ((0:Int)≤v13)) (gd (Decidable.decide (v13<(↑(List.length l):Int))) (gd (Decidable.decide (Int.toNat v13<List.length l)) (bif !Decidable.decide (List.getD l (Int.toNat v13) (0:Int)=(0:Int))then(some (Sum.inr (Sum.inl (List.getD l (Int.toNat v13) (0:Int)))))else(some (Sum.inl (Go.Sx.w64 (v13+(1:Int)))))))))else(some (Sum.inr (Sum.inr Unit.unit))))
  (fun v=>0≤v∧v≤l.length∧Zd l=Zd (l.drop v.toNat)) (fun v=>l.length-v.toNat) (fun b=>Sum.elim (fun(v11:Int)=>some (v11)) (fun(v12:Unit)=>some ((0:Int))) b=some (Zd l))
  (fun v ⟨h0,h1,h2⟩=>by
   by_cases hv:v<l.length
   ·have hk:v.toNat<l.length:=by omega
    simp only[h0,hv,hk,decide_true,cond_true,Y6];rw[Zkw hk]at h2;by_cases hz:l.getD v.toNat 0=0
    ·left;refine⟨v+1,?_,⟨by omega,by omega,?_⟩,by omega⟩
     ·simp only[hz,decide_true,Bool.not_true,cond_false];rw[Zz (by omega) (by omega)]
     ·rw[if_pos hz]at h2;rw[h2,show(v+1).toNat=v.toNat+1 by omega]
    ·right;refine⟨.inl (l.getD v.toNat 0),by simp only[hz,decide_false,Bool.not_false,cond_true],?_⟩;rw[if_neg hz]at h2;simp[h2]
   ·right;refine⟨.inr (),by simp only[hv,decide_false,cond_false],?_⟩;have:v.toNat=l.length:=by omega
    rw[this,List.drop_length]at h2;simp[h2,Zd])
  F 0 ⟨by omega,by omega,by simp⟩ (by simpa using hF)
 rw[h1];exact h2
theorem V8{α β:Type}(p:α×β):(p.1,p.2)=p:=rfl
def okB(i:Nat)(b:Int):Bool:=(decide (97≤b)&&decide (b≤122))||(decide (65≤b)&&decide (b≤90))||(!decide (i=0)&&(decide (b=95)||(decide (48≤b)&&decide (b≤57))))
def Qjz(s:ByteArray):Bool:=(List.range s.size).all fun i=>okB i ((s.get! i).toNat:Int)
def Um(s:ByteArray):Bool:=decide (1≤s.size∧s.size≤24)&&Qjz s
theorem Qwq(i:Nat)(b:Int):okB i b=((decide (97≤b)&&decide (b≤122))||(decide (65≤b)&&decide (b≤90))||(!decide ((i:Int)=0)&&(decide (b=95)||(decide (48≤b)&&decide (b≤57))))):=by simp[okB]
theorem Qb3{n i x:Nat}(h:(List.range n)[i]? =some x):x=i:=by
 by_cases hi:i<n
 ·rw[List.getElem?_range hi]at h;exact(Option.some.inj h).symm
 ·rw[List.getElem?_eq_none (by simp;omega)]at h;cases h
theorem l66{F:Nat}(hF:400≤F){s:ByteArray}:c66 F s=some (Um s):=by
 unfold c66 Um;by_cases h:1≤s.size∧s.size≤24
 ·have e:(bif decide ((s.size:Int)<1)then some true else some (decide ((24:Int)<s.size)))=some false:=by
   have h1:¬(s.size:Int)<1:=by omega
   have h2:¬(24:Int)<s.size:=by omega
   simp[h1,h2]
  rw[e];simp only[Option.bind_some,cond_false,h,and_self,decide_true,Bool.true_and];refine Yy (List.range s.size) (fun(_:Unit) i=>(i:Int)) (fun x _=>if(!okB x ((s.get! x).toNat:Int))=true then .inr (.inl false)else .inl ()) (fun _=>.inr ()) (fun _ _=>True) () (by simp;omega) rfl trivial ?_ ?_ ?_
  ·intro i x _ hi hx _;obtain rfl:=Qb3 hx;simp only[List.length_range]at hi;refine⟨?_,fun _ _=>trivial⟩;simp(disch:=omega)only[Ya,Zt,Int.toNat_natCast,Zz,Zou];rw[Qwq];cases decide ((97:Int)≤((s.get! x).toNat:Int))<;>cases decide (((s.get! x).toNat:Int)≤122)<;>cases decide ((65:Int)≤((s.get! x).toNat:Int))<;>cases decide (((s.get! x).toNat:Int)≤90)<;>
    cases decide ((x:Int)=0)<;>cases decide (((s.get! x).toNat:Int)=95)<;>cases decide ((48:Int)≤((s.get! x).toNat:Int))<;>cases decide (((s.get! x).toNat:Int)≤57)<;>rfl
  ·intro _ _;simp(disch:=omega)only[Z9,List.length_range]
  ·rw[Kp (fun x=>!okB x ((s.get! x).toNat:Int))];unfold Qjz;rw[List.all_eq_not_any_not];cases(List.range s.size).any fun x=>!okB x ((s.get! x).toNat:Int)<;>simp
 ·have e:(bif decide ((s.size:Int)<1)then some true else some (decide ((24:Int)<s.size)))=some true:=by
   by_cases h1:(s.size:Int)<1
   ·simp[h1]
   ·have h2:(24:Int)<s.size:=by omega
    simp[h1,h2]
  rw[e];simp[h]
theorem l70{F:Nat}(hF:400≤F){s:ByteArray}(hs:s.size≤300):c70 F s=some (Um s):=by
 unfold c70;refine Zo9 (Qm9 (List.range s.size) (fun x (_:Unit)=>if(!okB x ((s.get! x).toNat:Int))=true then .inr (.inl false)else .inl ()) (fun _=>(.inr ():Bool ⊕ Unit)) (fun i _ t=>t=(s,i))
  (fun(a:Bool ⊕ Unit) (b:(ByteArray×Nat)×Bool ⊕ ByteArray×Nat)=>a=b.elim (fun v=>.inl v.2) (fun _=>.inr ())) () (by simp;omega) rfl ?_ ?_ ?_)
 ·intro i x _ t hi hx ht;obtain rfl:=Qb3 hx;subst ht;simp only[List.length_range]at hi;simp(disch:=omega)only[Ya];rw[Qwq];by_cases hb:(s.get! x).toNat<128
  ·rw[Zrv hb];simp only[];by_cases h1:(97:Int)≤((s.get! x).toNat:Int)<;>by_cases h2:((s.get! x).toNat:Int)≤122<;>by_cases h3:(65:Int)≤((s.get! x).toNat:Int)<;>by_cases h4:((s.get! x).toNat:Int)≤90<;>
    by_cases h5:(x:Int)=0<;>by_cases h6:((s.get! x).toNat:Int)=95<;>by_cases h7:((s.get! x).toNat:Int)<48<;>by_cases h8:(57:Int)<((s.get! x).toNat:Int)<;>
    simp only[h1,h2,h3,h4,h5,h6,h7,h8,Int.not_lt.symm,decide_true,decide_false,cond_true,cond_false,Bool.not_true,Bool.not_false,Bool.and_true,Bool.and_false,Bool.true_and,Bool.false_and,Bool.or_true,Bool.or_false,Bool.true_or,Bool.false_or]<;>
    exact⟨_,rfl,rfl⟩
  ·have h2:=Za7 hb;have a1:(97:Int)≤((Go.Utf8.decode s x).1:Int):=by omega
   have a2:¬((Go.Utf8.decode s x).1:Int)≤122:=by omega
   have a3:(65:Int)≤((Go.Utf8.decode s x).1:Int):=by omega
   have a4:¬((Go.Utf8.decode s x).1:Int)≤90:=by omega
   have a5:¬((Go.Utf8.decode s x).1:Int)=95:=by omega
   have a6:¬((Go.Utf8.decode s x).1:Int)<48:=by omega
   have a7:(57:Int)<((Go.Utf8.decode s x).1:Int):=by omega
   have b2:¬((s.get! x).toNat:Int)≤122:=by omega
   have b4:¬((s.get! x).toNat:Int)≤90:=by omega
   have b5:¬((s.get! x).toNat:Int)=95:=by omega
   have b6:¬((s.get! x).toNat:Int)≤57:=by omega
   simp only[a1,a2,a3,a4,a5,a6,a7,b2,b4,b5,b6,decide_true,decide_false,cond_true,cond_false,Bool.not_true,Bool.not_false,Bool.and_true,Bool.and_false,Bool.or_false];by_cases h5:(x:Int)=0<;>simp only[h5,decide_true,decide_false,cond_true,cond_false,Bool.not_true,Bool.not_false,Bool.and_true,Bool.and_false,if_true]<;>exact⟨_,rfl,rfl⟩
 ·intro _ t ht;subst ht;simp(disch:=omega)only[Z9,List.length_range];exact⟨_,rfl,rfl⟩
 ·intro b hb;rw[Kp (fun x=>!okB x ((s.get! x).toNat:Int))]at hb;have e:(bif decide (0<(s.size:Int))then some (decide ((s.size:Int)≤24))else some false)=some (decide (1≤s.size∧s.size≤24)):=by
   by_cases h1:0<(s.size:Int)
   ·have h2:1≤s.size:=by omega
    by_cases h3:s.size≤24
    ·have:(s.size:Int)≤24:=by omega
     simp only[h1,h2,h3,this,decide_true,cond_true,and_self]
    ·have:¬(s.size:Int)≤24:=by omega
     simp only[h1,h2,h3,this,decide_true,cond_true,and_false]
   ·have h2:¬ 1≤s.size:=by omega
    simp only[h1,h2,decide_false,cond_false,false_and]
  unfold Um Qjz;rw[List.all_eq_not_any_not];cases hany:(List.range s.size).any fun x=>!okB x ((s.get! x).toNat:Int)with
  |true=>
   rw[hany]at hb;cases b with
   |inl v=>simp only[if_true,Sum.elim_inl,Sum.inl.injEq]at hb;exact⟨_,rfl,by rw[←hb];simp⟩
   |inr v=>simp at hb
  |false=>
   rw[hany]at hb;cases b with
   |inl v=>simp at hb
   |inr v=>exact⟨_,by simp only[Sum.elim_inr,e];rfl,by simp⟩
theorem l24(F:Nat)(n lo hi:Int):c24 F (n,lo,hi)=some (decide (n<lo∨hi<n)):=by unfold c24;by_cases h1:n<lo<;>by_cases h2:hi<n<;>simp[h1,h2]
theorem l27(F:Nat)(b:Bool)(e:Int):c27 F (b,e)=some (if b=true then e else 0):=by unfold c27;cases b<;>rfl
def wiE(n lo hi:Int):Int:=if n<lo∨hi<n then 3 else 0
theorem l26(F:Nat)(n lo hi:Int):c26 F (n,lo,hi)=some (wiE n lo hi):=by unfold c26 wiE;by_cases h1:n<lo<;>by_cases h2:hi<n<;>simp[h1,h2,l27]
def Qwi:Go.Shelf.Ren:=⟨fun|7=>73|10=>93|n=>n,fun|23=>98|26=>9|3=>4|28=>136|0=>0|27=>135|33=>129|4=>4|n=>n,fun|n=>n⟩
theorem Zsg:Go.Proofs.SlLaysZ.n7 cx.P Qwi:={
 mixed:=by kernel_rfl
 f7:=⟨Tryz.f73.name,by decide,Tryz.func73.trans (congrArg some (by kernel_rfl))⟩
 f10:=⟨Tryz.f93.name,by decide,Tryz.func93.trans (congrArg some (by kernel_rfl))⟩
 t0:=Tryz.underlying0
 a0:=Tryz.isAgg0
 z0:=Tryz.sizeOf0
 v0:=Tryz.zeroValue0
 t4:=Tryz.underlying4
 a4:=Tryz.isAgg4
 z4:=Tryz.sizeOf4
 v4:=Tryz.zeroValue4
 t23:=Tryz.underlying98
 a23:=Tryz.isAgg98
 z23:=Tryz.sizeOf98
 v23:=Tryz.zeroValue98
 t26:=Tryz.underlying9
 a26:=Tryz.isAgg9
 z26:=Tryz.sizeOf9
 v26:=Tryz.zeroValue9
 t27:=Tryz.underlying135
 a27:=Tryz.isAgg135
 z27:=Tryz.sizeOf135
 v27:=Tryz.zeroValue135
 t28:=Tryz.underlying136
 a28:=Tryz.isAgg136
 z28:=Tryz.sizeOf136
 v28:=Tryz.zeroValue136
 t33:=Tryz.underlying129
 a33:=Tryz.isAgg129
 z33:=Tryz.sizeOf129
 v33:=Tryz.zeroValue129}
def Qvx:Go.Shelf.Ren:=⟨fun|6=>72|8=>91|9=>92|11=>107|13=>109|12=>108|23=>136|24=>137|14=>127|15=>128|16=>129|17=>130|18=>131|19=>132|20=>133|21=>134|22=>135|25=>154|26=>155|27=>156|28=>157|29=>158|30=>159|31=>170|n=>n,fun|26=>9|28=>136|24=>38|0=>0|3=>3|37=>164|48=>197|50=>172|4=>4|40=>190|39=>189|45=>139|5=>5|9=>9|51=>208|55=>212|57=>223|58=>50|33=>129|n=>n,fun|n=>n⟩
theorem Zja:Go.Proofs.SlLaysZ.n6 cx.P Qvx:={
 mixed:=by kernel_rfl
 f6:=⟨Tryz.f72.name,by decide,Tryz.func72.trans (congrArg some (by kernel_rfl))⟩
 f8:=⟨Tryz.f91.name,by decide,Tryz.func91.trans (congrArg some (by kernel_rfl))⟩
 f11:=⟨Tryz.f107.name,by decide,Tryz.func107.trans (congrArg some (by kernel_rfl))⟩
 t0:=Tryz.underlying0
 a0:=Tryz.isAgg0
 z0:=Tryz.sizeOf0
 v0:=Tryz.zeroValue0
 t24:=Tryz.underlying38
 a24:=Tryz.isAgg38
 z24:=Tryz.sizeOf38
 v24:=Tryz.zeroValue38
 t26:=Tryz.underlying9
 a26:=Tryz.isAgg9
 z26:=Tryz.sizeOf9
 v26:=Tryz.zeroValue9
 t28:=Tryz.underlying136
 a28:=Tryz.isAgg136
 z28:=Tryz.sizeOf136
 v28:=Tryz.zeroValue136
 i26:=by kernel_rfl}
def Qwu:Go.Shelf.Ren:=⟨fun|6=>92|8=>109|9=>108|19=>136|20=>137|21=>127|22=>128|23=>129|24=>130|25=>131|26=>132|27=>133|28=>134|29=>135|36=>154|31=>155|32=>156|37=>157|38=>158|39=>159|41=>170|n=>n,fun|27=>38|29=>9|3=>3|32=>164|26=>38|0=>0|44=>197|46=>172|4=>4|36=>190|35=>189|41=>139|5=>5|9=>9|53=>208|57=>212|63=>223|64=>50|n=>n,fun|n=>n⟩
theorem Zgo:Go.Proofs.SlLaysM.n6 cx.P Qwu:={
 mixed:=by kernel_rfl
 f6:=⟨Tryz.f92.name,by decide,Tryz.func92.trans (congrArg some (by kernel_rfl))⟩
 f8:=Tryz.func109.trans (congrArg some (by kernel_rfl))
 f9:=⟨Tryz.f108.name,by decide,Tryz.func108.trans (congrArg some (by kernel_rfl))⟩
 f19:=Tryz.func136.trans (congrArg some (by kernel_rfl))
 f20:=Tryz.func137.trans (congrArg some (by kernel_rfl))
 f21:=⟨Tryz.f127.name,by decide,Tryz.func127.trans (congrArg some (by kernel_rfl))⟩
 f22:=⟨Tryz.f128.name,by decide,Tryz.func128.trans (congrArg some (by kernel_rfl))⟩
 f23:=⟨Tryz.f129.name,by decide,Tryz.func129.trans (congrArg some (by kernel_rfl))⟩
 f24:=⟨Tryz.f130.name,by decide,Tryz.func130.trans (congrArg some (by kernel_rfl))⟩
 f25:=⟨Tryz.f131.name,by decide,Tryz.func131.trans (congrArg some (by kernel_rfl))⟩
 f26:=⟨Tryz.f132.name,by decide,Tryz.func132.trans (congrArg some (by kernel_rfl))⟩
 f27:=⟨Tryz.f133.name,by decide,Tryz.func133.trans (congrArg some (by kernel_rfl))⟩
 f28:=⟨Tryz.f134.name,by decide,Tryz.func134.trans (congrArg some (by kernel_rfl))⟩
 f29:=⟨Tryz.f135.name,by decide,Tryz.func135.trans (congrArg some (by kernel_rfl))⟩
 f31:=Tryz.func155.trans (congrArg some (by kernel_rfl))
 f32:=Tryz.func156.trans (congrArg some (by kernel_rfl))
 f36:=⟨Tryz.f154.name,by decide,Tryz.func154.trans (congrArg some (by kernel_rfl))⟩
 f37:=⟨Tryz.f157.name,by decide,Tryz.func157.trans (congrArg some (by kernel_rfl))⟩
 f38:=⟨Tryz.f158.name,by decide,Tryz.func158.trans (congrArg some (by kernel_rfl))⟩
 f39:=⟨Tryz.f159.name,by decide,Tryz.func159.trans (congrArg some (by kernel_rfl))⟩
 f41:=⟨Tryz.f170.name,by decide,Tryz.func170.trans (congrArg some (by kernel_rfl))⟩
 t0:=Tryz.underlying0
 a0:=Tryz.isAgg0
 z0:=Tryz.sizeOf0
 v0:=Tryz.zeroValue0
 t3:=Tryz.underlying3
 a3:=Tryz.isAgg3
 z3:=Tryz.sizeOf3
 v3:=Tryz.zeroValue3
 t4:=Tryz.underlying4
 a4:=Tryz.isAgg4
 z4:=Tryz.sizeOf4
 v4:=Tryz.zeroValue4
 t5:=Tryz.underlying5
 a5:=Tryz.isAgg5
 z5:=Tryz.sizeOf5
 v5:=Tryz.zeroValue5
 t9:=Tryz.underlying9
 a9:=Tryz.isAgg9
 z9:=Tryz.sizeOf9
 v9:=Tryz.zeroValue9
 t26:=Tryz.underlying38
 a26:=Tryz.isAgg38
 z26:=Tryz.sizeOf38
 v26:=Tryz.zeroValue38
 t27:=Tryz.underlying38
 a27:=Tryz.isAgg38
 z27:=Tryz.sizeOf38
 v27:=Tryz.zeroValue38
 t29:=Tryz.underlying9
 a29:=Tryz.isAgg9
 z29:=Tryz.sizeOf9
 v29:=Tryz.zeroValue9
 t32:=Tryz.underlying164
 a32:=Tryz.isAgg164
 z32:=Tryz.sizeOf164
 v32:=Tryz.zeroValue164
 t35:=Tryz.underlying189
 a35:=Tryz.isAgg189
 z35:=Tryz.sizeOf189
 v35:=Tryz.zeroValue189
 t36:=Tryz.underlying190
 a36:=Tryz.isAgg190
 z36:=Tryz.sizeOf190
 v36:=Tryz.zeroValue190
 t41:=Tryz.underlying139
 a41:=Tryz.isAgg139
 z41:=Tryz.sizeOf139
 v41:=Tryz.zeroValue139
 t44:=Tryz.underlying197
 a44:=Tryz.isAgg197
 z44:=Tryz.sizeOf197
 v44:=Tryz.zeroValue197
 t46:=Tryz.underlying172
 a46:=Tryz.isAgg172
 z46:=Tryz.sizeOf172
 v46:=Tryz.zeroValue172
 t53:=Tryz.underlying208
 a53:=Tryz.isAgg208
 z53:=Tryz.sizeOf208
 v53:=Tryz.zeroValue208
 t57:=Tryz.underlying212
 a57:=Tryz.isAgg212
 z57:=Tryz.sizeOf212
 v57:=Tryz.zeroValue212
 t63:=Tryz.underlying223
 a63:=Tryz.isAgg223
 z63:=Tryz.sizeOf223
 v63:=Tryz.zeroValue223
 t64:=Tryz.underlying50
 a64:=Tryz.isAgg50
 z64:=Tryz.sizeOf50
 v64:=Tryz.zeroValue50}
theorem Qrw:Yr cx 72 (Qcc 93):=Zaw (ρ1:=Qwi) (ρ2:=Qvx) (ρ3:=Qwu) ⟨f72,by kernel_rfl⟩ {Zsg with} Zja Zgo rfl rfl rfl (enters_of func93 (by kernel_rfl) rfl) (enters_of func92 (by kernel_rfl) rfl)
def Qvq:Go.Shelf.Ren:=⟨fun|171=>121|243=>145|246=>160|283=>161|284=>162|285=>163|286=>164|129=>137|317=>171|318=>172|319=>173|320=>174|337=>176|338=>177|n=>n,fun|3=>3|9=>9|2=>2|4=>4|171=>215|0=>0|53=>172|37=>180|5=>5|173=>217|212=>226|51=>197|20=>20|213=>227|46=>164|232=>229|233=>230|n=>n,fun|17=>3|18=>5|19=>6|n=>n⟩
theorem Zen:Go.Proofs.LaysM.n171 cx.P Qvq:={
 mixed:=by kernel_rfl
 f129:=Tryz.func137.trans (congrArg some (by kernel_rfl))
 f171:=Tryz.func121.trans (congrArg some (by kernel_rfl))
 f243:=Tryz.func145.trans (congrArg some (by kernel_rfl))
 f246:=Tryz.func160.trans (congrArg some (by kernel_rfl))
 f283:=Tryz.func161.trans (congrArg some (by kernel_rfl))
 f284:=Tryz.func162.trans (congrArg some (by kernel_rfl))
 f285:=Tryz.func163.trans (congrArg some (by kernel_rfl))
 f286:=Tryz.func164.trans (congrArg some (by kernel_rfl))
 f317:=Tryz.func171.trans (congrArg some (by kernel_rfl))
 f318:=Tryz.func172.trans (congrArg some (by kernel_rfl))
 f319:=Tryz.func173.trans (congrArg some (by kernel_rfl))
 f320:=Tryz.func174.trans (congrArg some (by kernel_rfl))
 f337:=Tryz.func176.trans (congrArg some (by kernel_rfl))
 f338:=Tryz.func177.trans (congrArg some (by kernel_rfl))
 t0:=Tryz.underlying0
 a0:=Tryz.isAgg0
 z0:=Tryz.sizeOf0
 v0:=Tryz.zeroValue0
 t2:=Tryz.underlying2
 a2:=Tryz.isAgg2
 z2:=Tryz.sizeOf2
 v2:=Tryz.zeroValue2
 t3:=Tryz.underlying3
 a3:=Tryz.isAgg3
 z3:=Tryz.sizeOf3
 v3:=Tryz.zeroValue3
 t4:=Tryz.underlying4
 a4:=Tryz.isAgg4
 z4:=Tryz.sizeOf4
 v4:=Tryz.zeroValue4
 t5:=Tryz.underlying5
 a5:=Tryz.isAgg5
 z5:=Tryz.sizeOf5
 v5:=Tryz.zeroValue5
 t9:=Tryz.underlying9
 a9:=Tryz.isAgg9
 z9:=Tryz.sizeOf9
 v9:=Tryz.zeroValue9
 t20:=Tryz.underlying20
 a20:=Tryz.isAgg20
 z20:=Tryz.sizeOf20
 v20:=Tryz.zeroValue20
 t37:=Tryz.underlying180
 a37:=Tryz.isAgg180
 z37:=Tryz.sizeOf180
 v37:=Tryz.zeroValue180
 t46:=Tryz.underlying164
 a46:=Tryz.isAgg164
 z46:=Tryz.sizeOf164
 v46:=Tryz.zeroValue164
 t51:=Tryz.underlying197
 a51:=Tryz.isAgg197
 z51:=Tryz.sizeOf197
 v51:=Tryz.zeroValue197
 t53:=Tryz.underlying172
 a53:=Tryz.isAgg172
 z53:=Tryz.sizeOf172
 v53:=Tryz.zeroValue172
 t171:=Tryz.underlying215
 a171:=Tryz.isAgg215
 z171:=Tryz.sizeOf215
 v171:=Tryz.zeroValue215
 t173:=Tryz.underlying217
 a173:=Tryz.isAgg217
 z173:=Tryz.sizeOf217
 v173:=Tryz.zeroValue217
 t212:=Tryz.underlying226
 a212:=Tryz.isAgg226
 z212:=Tryz.sizeOf226
 v212:=Tryz.zeroValue226
 t213:=Tryz.underlying227
 a213:=Tryz.isAgg227
 z213:=Tryz.sizeOf227
 t232:=Tryz.underlying229
 a232:=Tryz.isAgg229
 z232:=Tryz.sizeOf229
 v232:=Tryz.zeroValue229
 t233:=Tryz.underlying230
 a233:=Tryz.isAgg230
 z233:=Tryz.sizeOf230
 v233:=Tryz.zeroValue230
 g17:=by kernel_rfl
 g18:=by kernel_rfl
 g19:=by kernel_rfl
 i0:=by kernel_rfl
 i2:=by kernel_rfl
 i3:=by kernel_rfl
 i4:=by kernel_rfl
 i5:=by kernel_rfl
 i9:=by kernel_rfl
 i20:=by kernel_rfl
 i37:=by kernel_rfl
 i46:=by kernel_rfl
 i51:=by kernel_rfl
 i53:=by kernel_rfl
 i171:=by kernel_rfl
 i173:=by kernel_rfl
 i212:=by kernel_rfl
 i232:=by kernel_rfl
 i233:=by kernel_rfl
 m17:=by kernel_rfl
 m18:=by kernel_rfl
 m19:=by kernel_rfl}
noncomputable def Zdf(F:Nat)(a:Int):Option ByteArray:=Qeb a
noncomputable def Qbx(F:Nat):PC:={ats:=[.val (.int .i64)],rts:=[.val .str],code:=Zdf F}
theorem Qfy(F:Nat):Qw cx 121 (Qbx F):=Zjo (ρ0:=Qvq) rfl Zen ⟨f121,by kernel_rfl⟩ (gt:=3) (by kernel_rfl) (by kernel_rfl)
def bs(l:List UInt8):ByteArray:=⟨⟨l⟩⟩
noncomputable def Qs:Lx:={ext:=[(121,(Qbx 400).sm)],anns:=[],still:=[]}
theorem Qt:Qs.Ok cx.bare:=Lx.Qz (PC.Q2 (Qfy 400).bare) Lx.Zk
def Qv6:(Int×Int×Int×Int×Int×Int)×Int:=((84390,36500,1220,300,200,8),3)
def Qvb:Int×Int:=(39140,0)
abbrev Qjo:List Qk:=[.agg [.int .i64,.int .i64,.int .i64,.int .i64,.int .i64,.int .i64],.val (.int .i64)]
abbrev Qpv:List Qk:=[.val (.int .i64),.val (.int .i64)]
theorem Ztd:Zf cx.bare Qs 3000 .leaf f28 (Qd f28) Qjo Qpv Qv6=some Qvb:=by kernel_rfl
noncomputable def Qxe:PC:={ats:=Qjo,rts:=Qpv,code:=Go.Sx.one (ats:=Qjo) (rts:=Qpv) Qv6 Qvb}
theorem Zne:Qw cx.bare 28 Qxe:=Qw.Qi (Cx.Qm Qj) Qt (n:=3000) (an:=.leaf) (fn:=f28) (c:=Qd f28) (by kernel_rfl) (by kernel_rfl) (fun a y h=>by obtain⟨h1,h2⟩:=Go.Sx.one_some h;subst h1;subst h2;exact Ztd) (by kernel_rfl)
def Quq:(Int×Int×Int×Int×Int×Int)×Int:=((84390,36500,1220,300,200,8),1)
def Qxz:(ByteArray×ByteArray)×Int:=((bs [50,49,49,57,57,55,52,48,47,53,51],bs [50,56,48,48,54,54,48,47,55]),0)
abbrev Qi9:List Qk:=[.agg [.int .i64,.int .i64,.int .i64,.int .i64,.int .i64,.int .i64],.val (.int .i64)]
abbrev Qnu:List Qk:=[.agg [.str,.str],.val (.int .i64)]
theorem Zpw:Zf cx.bare Qs 3000 .leaf f30 (Qd f30) Qi9 Qnu Quq=some Qxz:=by kernel_rfl
noncomputable def Qvd:PC:={ats:=Qi9,rts:=Qnu,code:=Go.Sx.one (ats:=Qi9) (rts:=Qnu) Quq Qxz}
theorem Zgm:Qw cx.bare 30 Qvd:=Qw.Qi (Cx.Qm Qj) Qt (n:=3000) (an:=.leaf) (fn:=f30) (c:=Qd f30) (by kernel_rfl) (by kernel_rfl) (fun a y h=>by obtain⟨h1,h2⟩:=Go.Sx.one_some h;subst h1;subst h2;exact Zpw) (by kernel_rfl)
def Qql:(Int×Int×Int×Int×Int×Int)×Int×Int:=((84390,36500,1220,300,200,8),2,1)
def Qw9:(ByteArray×ByteArray)×Int:=((bs [49,56,54,52,56,48,47,53,51],bs [51,53,50,48]),0)
abbrev Qha:List Qk:=[.agg [.int .i64,.int .i64,.int .i64,.int .i64,.int .i64,.int .i64],.val (.int .i64),.val (.int .i64)]
abbrev Qn8:List Qk:=[.agg [.str,.str],.val (.int .i64)]
theorem Zqi:Zf cx.bare Qs 3000 .leaf f31 (Qd f31) Qha Qn8 Qql=some Qw9:=by kernel_rfl
noncomputable def Qq4:PC:={ats:=Qha,rts:=Qn8,code:=Go.Sx.one (ats:=Qha) (rts:=Qn8) Qql Qw9}
theorem Zpx:Qw cx.bare 31 Qq4:=Qw.Qi (Cx.Qm Qj) Qt (n:=3000) (an:=.leaf) (fn:=f31) (c:=Qd f31) (by kernel_rfl) (by kernel_rfl) (fun a y h=>by obtain⟨h1,h2⟩:=Go.Sx.one_some h;subst h1;subst h2;exact Zqi) (by kernel_rfl)
def Qls:LC:=⟨[.agg #[.int .i64 1120,.slice none 0 0,.int .i64 1,.slice none 0 0],.agg #[.int .i64 333,.slice none 0 0,.int .i64 106,.slice none 0 0]],[.agg #[.int .i64 186480,.slice none 0 0,.int .i64 53,.slice none 0 0]]⟩
theorem Zjv:Qp cx.bare Qs 3000 .leaf f79 (Qd f79) Qls=some ():=by kernel_rfl
theorem Zoh:Qg cx.bare 79 Qls:=Qg.Qi (Cx.Qm Qj) Qt (n:=3000) (an:=.leaf) (fn:=f79) (c:=Qd f79) (by kernel_rfl) (by kernel_rfl) Zjv (by kernel_rfl)
def Qn1:LC:=⟨[.agg #[.int .i64 1120,.slice none 0 0,.int .i64 1,.slice none 0 0],.agg #[.int .i64 22,.slice none 0 0,.int .i64 7,.slice none 0 0]],[.agg #[.int .i64 3520,.slice none 0 0,.int .i64 1,.slice none 0 0]]⟩
theorem Zpd:Qp cx.bare Qs 3000 .leaf f79 (Qd f79) Qn1=some ():=by kernel_rfl
theorem Zj4:Qg cx.bare 79 Qn1:=Qg.Qi (Cx.Qm Qj) Qt (n:=3000) (an:=.leaf) (fn:=f79) (c:=Qd f79) (by kernel_rfl) (by kernel_rfl) Zpd (by kernel_rfl)
def Qk6:LC:=⟨[.agg #[.int .i64 2340,.slice none 0 0,.int .i64 1,.slice none 0 0],.agg #[.int .i64 333,.slice none 0 0,.int .i64 106,.slice none 0 0]],[.agg #[.int .i64 389610,.slice none 0 0,.int .i64 53,.slice none 0 0]]⟩
theorem Zpc:Qp cx.bare Qs 3000 .leaf f79 (Qd f79) Qk6=some ():=by kernel_rfl
theorem Zjl:Qg cx.bare 79 Qk6:=Qg.Qi (Cx.Qm Qj) Qt (n:=3000) (an:=.leaf) (fn:=f79) (c:=Qd f79) (by kernel_rfl) (by kernel_rfl) Zpc (by kernel_rfl)
def Qpl:LC:=⟨[.agg #[.int .i64 2340,.slice none 0 0,.int .i64 1,.slice none 0 0],.agg #[.int .i64 22,.slice none 0 0,.int .i64 7,.slice none 0 0]],[.agg #[.int .i64 51480,.slice none 0 0,.int .i64 7,.slice none 0 0]]⟩
theorem Zib:Qp cx.bare Qs 3000 .leaf f79 (Qd f79) Qpl=some ():=by kernel_rfl
theorem Zj1:Qg cx.bare 79 Qpl:=Qg.Qi (Cx.Qm Qj) Qt (n:=3000) (an:=.leaf) (fn:=f79) (c:=Qd f79) (by kernel_rfl) (by kernel_rfl) Zib (by kernel_rfl)
def Qib:LC:=⟨[.agg #[.int .i64 3560,.slice none 0 0,.int .i64 1,.slice none 0 0],.agg #[.int .i64 333,.slice none 0 0,.int .i64 106,.slice none 0 0]],[.agg #[.int .i64 592740,.slice none 0 0,.int .i64 53,.slice none 0 0]]⟩
theorem Zhg:Qp cx.bare Qs 3000 .leaf f79 (Qd f79) Qib=some ():=by kernel_rfl
theorem Zii:Qg cx.bare 79 Qib:=Qg.Qi (Cx.Qm Qj) Qt (n:=3000) (an:=.leaf) (fn:=f79) (c:=Qd f79) (by kernel_rfl) (by kernel_rfl) Zhg (by kernel_rfl)
def Qo6:LC:=⟨[.agg #[.int .i64 3560,.slice none 0 0,.int .i64 1,.slice none 0 0],.agg #[.int .i64 22,.slice none 0 0,.int .i64 7,.slice none 0 0]],[.agg #[.int .i64 78320,.slice none 0 0,.int .i64 7,.slice none 0 0]]⟩
theorem Zdz:Qp cx.bare Qs 3000 .leaf f79 (Qd f79) Qo6=some ():=by kernel_rfl
theorem Zs4:Qg cx.bare 79 Qo6:=Qg.Qi (Cx.Qm Qj) Qt (n:=3000) (an:=.leaf) (fn:=f79) (c:=Qd f79) (by kernel_rfl) (by kernel_rfl) Zdz (by kernel_rfl)
def Qm3:LC:=⟨[.agg #[.int .i64 4780,.slice none 0 0,.int .i64 1,.slice none 0 0],.agg #[.int .i64 333,.slice none 0 0,.int .i64 106,.slice none 0 0]],[.agg #[.int .i64 795870,.slice none 0 0,.int .i64 53,.slice none 0 0]]⟩
theorem Zcl:Qp cx.bare Qs 3000 .leaf f79 (Qd f79) Qm3=some ():=by kernel_rfl
theorem Zko:Qg cx.bare 79 Qm3:=Qg.Qi (Cx.Qm Qj) Qt (n:=3000) (an:=.leaf) (fn:=f79) (c:=Qd f79) (by kernel_rfl) (by kernel_rfl) Zcl (by kernel_rfl)
def Qj9:LC:=⟨[.agg #[.int .i64 4780,.slice none 0 0,.int .i64 1,.slice none 0 0],.agg #[.int .i64 22,.slice none 0 0,.int .i64 7,.slice none 0 0]],[.agg #[.int .i64 105160,.slice none 0 0,.int .i64 7,.slice none 0 0]]⟩
theorem Ztb:Qp cx.bare Qs 3000 .leaf f79 (Qd f79) Qj9=some ():=by kernel_rfl
theorem Zb5:Qg cx.bare 79 Qj9:=Qg.Qi (Cx.Qm Qj) Qt (n:=3000) (an:=.leaf) (fn:=f79) (c:=Qd f79) (by kernel_rfl) (by kernel_rfl) Ztb (by kernel_rfl)
def Qkq:LC:=⟨[.agg #[.int .i64 6000,.slice none 0 0,.int .i64 1,.slice none 0 0],.agg #[.int .i64 333,.slice none 0 0,.int .i64 106,.slice none 0 0]],[.agg #[.int .i64 999000,.slice none 0 0,.int .i64 53,.slice none 0 0]]⟩
theorem Zn1:Qp cx.bare Qs 3000 .leaf f79 (Qd f79) Qkq=some ():=by kernel_rfl
theorem Zc2:Qg cx.bare 79 Qkq:=Qg.Qi (Cx.Qm Qj) Qt (n:=3000) (an:=.leaf) (fn:=f79) (c:=Qd f79) (by kernel_rfl) (by kernel_rfl) Zn1 (by kernel_rfl)
def Qlx:LC:=⟨[.agg #[.int .i64 6000,.slice none 0 0,.int .i64 1,.slice none 0 0],.agg #[.int .i64 22,.slice none 0 0,.int .i64 7,.slice none 0 0]],[.agg #[.int .i64 132000,.slice none 0 0,.int .i64 7,.slice none 0 0]]⟩
theorem Zkp:Qp cx.bare Qs 3000 .leaf f79 (Qd f79) Qlx=some ():=by kernel_rfl
theorem Zl6:Qg cx.bare 79 Qlx:=Qg.Qi (Cx.Qm Qj) Qt (n:=3000) (an:=.leaf) (fn:=f79) (c:=Qd f79) (by kernel_rfl) (by kernel_rfl) Zkp (by kernel_rfl)
def Qkx:LC:=⟨[.agg #[.int .i64 7220,.slice none 0 0,.int .i64 1,.slice none 0 0],.agg #[.int .i64 333,.slice none 0 0,.int .i64 106,.slice none 0 0]],[.agg #[.int .i64 1202130,.slice none 0 0,.int .i64 53,.slice none 0 0]]⟩
theorem Za2:Qp cx.bare Qs 3000 .leaf f79 (Qd f79) Qkx=some ():=by kernel_rfl
theorem Zdu:Qg cx.bare 79 Qkx:=Qg.Qi (Cx.Qm Qj) Qt (n:=3000) (an:=.leaf) (fn:=f79) (c:=Qd f79) (by kernel_rfl) (by kernel_rfl) Za2 (by kernel_rfl)
def Qgi:LC:=⟨[.agg #[.int .i64 7220,.slice none 0 0,.int .i64 1,.slice none 0 0],.agg #[.int .i64 22,.slice none 0 0,.int .i64 7,.slice none 0 0]],[.agg #[.int .i64 158840,.slice none 0 0,.int .i64 7,.slice none 0 0]]⟩
theorem Zn9:Qp cx.bare Qs 3000 .leaf f79 (Qd f79) Qgi=some ():=by kernel_rfl
theorem Zth:Qg cx.bare 79 Qgi:=Qg.Qi (Cx.Qm Qj) Qt (n:=3000) (an:=.leaf) (fn:=f79) (c:=Qd f79) (by kernel_rfl) (by kernel_rfl) Zn9 (by kernel_rfl)
def Qjx:LC:=⟨[.agg #[.int .i64 8440,.slice none 0 0,.int .i64 1,.slice none 0 0],.agg #[.int .i64 333,.slice none 0 0,.int .i64 106,.slice none 0 0]],[.agg #[.int .i64 1405260,.slice none 0 0,.int .i64 53,.slice none 0 0]]⟩
theorem Zmo:Qp cx.bare Qs 3000 .leaf f79 (Qd f79) Qjx=some ():=by kernel_rfl
theorem Zps:Qg cx.bare 79 Qjx:=Qg.Qi (Cx.Qm Qj) Qt (n:=3000) (an:=.leaf) (fn:=f79) (c:=Qd f79) (by kernel_rfl) (by kernel_rfl) Zmo (by kernel_rfl)
def Qhh:LC:=⟨[.agg #[.int .i64 8440,.slice none 0 0,.int .i64 1,.slice none 0 0],.agg #[.int .i64 22,.slice none 0 0,.int .i64 7,.slice none 0 0]],[.agg #[.int .i64 185680,.slice none 0 0,.int .i64 7,.slice none 0 0]]⟩
theorem Zqm:Qp cx.bare Qs 3000 .leaf f79 (Qd f79) Qhh=some ():=by kernel_rfl
theorem Zh9:Qg cx.bare 79 Qhh:=Qg.Qi (Cx.Qm Qj) Qt (n:=3000) (an:=.leaf) (fn:=f79) (c:=Qd f79) (by kernel_rfl) (by kernel_rfl) Zqm (by kernel_rfl)
def Qkv:LC:=⟨[.agg #[.int .i64 1,.slice none 0 0,.int .i64 1,.slice none 0 0],.agg #[.int .i64 333,.slice none 0 0,.int .i64 106,.slice none 0 0]],[.agg #[.int .i64 333,.slice none 0 0,.int .i64 106,.slice none 0 0]]⟩
theorem Zoz:Qp cx.bare Qs 3000 .leaf f79 (Qd f79) Qkv=some ():=by kernel_rfl
theorem Zhy:Qg cx.bare 79 Qkv:=Qg.Qi (Cx.Qm Qj) Qt (n:=3000) (an:=.leaf) (fn:=f79) (c:=Qd f79) (by kernel_rfl) (by kernel_rfl) Zoz (by kernel_rfl)
def Qlc:LC:=⟨[.agg #[.int .i64 1,.slice none 0 0,.int .i64 1,.slice none 0 0],.agg #[.int .i64 22,.slice none 0 0,.int .i64 7,.slice none 0 0]],[.agg #[.int .i64 22,.slice none 0 0,.int .i64 7,.slice none 0 0]]⟩
theorem Zr3:Qp cx.bare Qs 3000 .leaf f79 (Qd f79) Qlc=some ():=by kernel_rfl
theorem Zf6:Qg cx.bare 79 Qlc:=Qg.Qi (Cx.Qm Qj) Qt (n:=3000) (an:=.leaf) (fn:=f79) (c:=Qd f79) (by kernel_rfl) (by kernel_rfl) Zr3 (by kernel_rfl)
def Qpf:LC:=⟨[.agg #[.int .i64 333,.slice none 0 0,.int .i64 106,.slice none 0 0],.agg #[.int .i64 36800,.slice none 0 0,.int .i64 1,.slice none 0 0]],[.agg #[.int .i64 6127200,.slice none 0 0,.int .i64 53,.slice none 0 0]]⟩
theorem Zgh:Qp cx.bare Qs 3000 .leaf f79 (Qd f79) Qpf=some ():=by kernel_rfl
theorem Zga:Qg cx.bare 79 Qpf:=Qg.Qi (Cx.Qm Qj) Qt (n:=3000) (an:=.leaf) (fn:=f79) (c:=Qd f79) (by kernel_rfl) (by kernel_rfl) Zgh (by kernel_rfl)
def Qlv:LC:=⟨[.agg #[.int .i64 10599870,.slice none 0 0,.int .i64 53,.slice none 0 0],.agg #[.int .i64 2,.slice none 0 0,.int .i64 1,.slice none 0 0]],[.agg #[.int .i64 21199740,.slice none 0 0,.int .i64 53,.slice none 0 0]]⟩
theorem Zio:Qp cx.bare Qs 3000 .leaf f79 (Qd f79) Qlv=some ():=by kernel_rfl
theorem Zdb:Qg cx.bare 79 Qlv:=Qg.Qi (Cx.Qm Qj) Qt (n:=3000) (an:=.leaf) (fn:=f79) (c:=Qd f79) (by kernel_rfl) (by kernel_rfl) Zio (by kernel_rfl)
def Qiu:LC:=⟨[.agg #[.int .i64 116000,.slice none 0 0,.int .i64 1,.slice none 0 0],.agg #[.int .i64 53,.slice none 0 0,.int .i64 21199740,.slice none 0 0]],[.agg #[.int .i64 307400,.slice none 0 0,.int .i64 1059987,.slice none 0 0]]⟩
theorem Zdt:Qp cx.bare Qs 3000 .leaf f79 (Qd f79) Qiu=some ():=by kernel_rfl
theorem Zek:Qg cx.bare 79 Qiu:=Qg.Qi (Cx.Qm Qj) Qt (n:=3000) (an:=.leaf) (fn:=f79) (c:=Qd f79) (by kernel_rfl) (by kernel_rfl) Zdt (by kernel_rfl)
def Qj2:LC:=⟨[.agg #[.int .i64 21199740,.slice none 0 0,.int .i64 53,.slice none 0 0],.agg #[.int .i64 0,.slice none 0 0,.int .i64 1,.slice none 0 0]],[.agg #[.int .i64 0,.slice none 0 0,.int .i64 1,.slice none 0 0]]⟩
theorem Zqn:Qp cx.bare Qs 3000 .leaf f79 (Qd f79) Qj2=some ():=by kernel_rfl
theorem Ztk:Qg cx.bare 79 Qj2:=Qg.Qi (Cx.Qm Qj) Qt (n:=3000) (an:=.leaf) (fn:=f79) (c:=Qd f79) (by kernel_rfl) (by kernel_rfl) Zqn (by kernel_rfl)
def Qoe:LC:=⟨[.agg #[.int .i64 22,.slice none 0 0,.int .i64 7,.slice none 0 0],.agg #[.int .i64 36800,.slice none 0 0,.int .i64 1,.slice none 0 0]],[.agg #[.int .i64 809600,.slice none 0 0,.int .i64 7,.slice none 0 0]]⟩
theorem Zfp:Qp cx.bare Qs 3000 .leaf f79 (Qd f79) Qoe=some ():=by kernel_rfl
theorem Zg4:Qg cx.bare 79 Qoe:=Qg.Qi (Cx.Qm Qj) Qt (n:=3000) (an:=.leaf) (fn:=f79) (c:=Qd f79) (by kernel_rfl) (by kernel_rfl) Zfp (by kernel_rfl)
def Ql5:LC:=⟨[.agg #[.int .i64 1400330,.slice none 0 0,.int .i64 7,.slice none 0 0],.agg #[.int .i64 2,.slice none 0 0,.int .i64 1,.slice none 0 0]],[.agg #[.int .i64 2800660,.slice none 0 0,.int .i64 7,.slice none 0 0]]⟩
theorem Znk:Qp cx.bare Qs 3000 .leaf f79 (Qd f79) Ql5=some ():=by kernel_rfl
theorem Zbx:Qg cx.bare 79 Ql5:=Qg.Qi (Cx.Qm Qj) Qt (n:=3000) (an:=.leaf) (fn:=f79) (c:=Qd f79) (by kernel_rfl) (by kernel_rfl) Znk (by kernel_rfl)
def Qkp:LC:=⟨[.agg #[.int .i64 116000,.slice none 0 0,.int .i64 1,.slice none 0 0],.agg #[.int .i64 7,.slice none 0 0,.int .i64 2800660,.slice none 0 0]],[.agg #[.int .i64 40600,.slice none 0 0,.int .i64 140033,.slice none 0 0]]⟩
theorem Zrx:Qp cx.bare Qs 3000 .leaf f79 (Qd f79) Qkp=some ():=by kernel_rfl
theorem Zbz:Qg cx.bare 79 Qkp:=Qg.Qi (Cx.Qm Qj) Qt (n:=3000) (an:=.leaf) (fn:=f79) (c:=Qd f79) (by kernel_rfl) (by kernel_rfl) Zrx (by kernel_rfl)
def Qlo:LC:=⟨[.agg #[.int .i64 2800660,.slice none 0 0,.int .i64 7,.slice none 0 0],.agg #[.int .i64 0,.slice none 0 0,.int .i64 1,.slice none 0 0]],[.agg #[.int .i64 0,.slice none 0 0,.int .i64 1,.slice none 0 0]]⟩
theorem Zi7:Qp cx.bare Qs 3000 .leaf f79 (Qd f79) Qlo=some ():=by kernel_rfl
theorem Zcv:Qg cx.bare 79 Qlo:=Qg.Qi (Cx.Qm Qj) Qt (n:=3000) (an:=.leaf) (fn:=f79) (c:=Qd f79) (by kernel_rfl) (by kernel_rfl) Zi7 (by kernel_rfl)
def Qph:LC:=⟨[.agg #[.int .i64 115630,.slice none 0 0,.int .i64 1,.slice none 0 0],.agg #[.int .i64 53,.slice none 0 0,.int .i64 21199740,.slice none 0 0]],[.agg #[.int .i64 612839,.slice none 0 0,.int .i64 2119974,.slice none 0 0]]⟩
theorem Zdo:Qp cx.bare Qs 3000 .leaf f79 (Qd f79) Qph=some ():=by kernel_rfl
theorem Zin:Qg cx.bare 79 Qph:=Qg.Qi (Cx.Qm Qj) Qt (n:=3000) (an:=.leaf) (fn:=f79) (c:=Qd f79) (by kernel_rfl) (by kernel_rfl) Zdo (by kernel_rfl)
def Qmx:LC:=⟨[.agg #[.int .i64 115630,.slice none 0 0,.int .i64 1,.slice none 0 0],.agg #[.int .i64 7,.slice none 0 0,.int .i64 2800660,.slice none 0 0]],[.agg #[.int .i64 80941,.slice none 0 0,.int .i64 280066,.slice none 0 0]]⟩
theorem Zqy:Qp cx.bare Qs 3000 .leaf f79 (Qd f79) Qmx=some ():=by kernel_rfl
theorem Zpe:Qg cx.bare 79 Qmx:=Qg.Qi (Cx.Qm Qj) Qt (n:=3000) (an:=.leaf) (fn:=f79) (c:=Qd f79) (by kernel_rfl) (by kernel_rfl) Zqy (by kernel_rfl)
end Go.Proofs.Tryz
