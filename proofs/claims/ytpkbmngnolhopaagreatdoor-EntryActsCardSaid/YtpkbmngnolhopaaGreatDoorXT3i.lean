/- Plain law: marks compared, in the program and in the reference. Plain law: entries in order, in the program and in the reference. And further parts. -/
import Derived.Test.YtpkbmngnolhopaaGreatDoorXT3f
import Derived.Test.YtpkbmngnolhopaaGreatDoorXTeB2
import Derived.Test.YtpkbmngnolhopaaGreatDoorXTeB3
set_option maxRecDepth 100000
set_option linter.unusedVariables false
set_option linter.unusedSimpArgs false
namespace Go.Proofs.Tryz
open Go Go.Sx
abbrev Mk:=ByteArray×Int×ByteArray
theorem Yoh:({data:=List.toArray ((108:UInt8)::(101:UInt8)::(110:UInt8)::(103:UInt8)::(116:UInt8)::(104:UInt8)::Qa UInt8)}:ByteArray)=kL:=rfl
theorem Zl3:({data:=List.toArray ((112:UInt8)::(111:UInt8)::(105:UInt8)::(110:UInt8)::(116:UInt8)::(115:UInt8)::Qa UInt8)}:ByteArray)=kP:=rfl
theorem Ze0:({data:=List.toArray ((116:UInt8)::(105:UInt8)::(109:UInt8)::(101:UInt8)::Qa UInt8)}:ByteArray)=kT:=rfl
theorem Zcv:({data:=List.toArray ((110:UInt8)::(111:UInt8)::(110:UInt8)::(101:UInt8)::Qa UInt8)}:ByteArray)=kN:=rfl
def wM(k:ByteArray)(v:Int):Int:=if Qc k kT=true then-v else if Qc k kL=true then v else if Qc k kP=true then v else-864000000
def Wr(a b:Int):Int:=if b<a then-1 else if a<b then 1 else 0
def Jj(x:Mk):Prop:=Wc x.1 x.2.1 x.2.2=0
def kindOk(x:Mk):Prop:=Qc x.1 kN=true∨Qc x.1 kT=true∨Qc x.1 kL=true∨Qc x.1 kP=true
theorem Zxg{x:Mk}(h:Jj x):kindOk x:=by
 unfold Jj Wc at h;unfold kindOk;by_cases h1:Qc x.1 kN=true
 ·exact .inl h1
 ·by_cases h2:Qc x.1 kT=true
  ·exact .inr (.inl h2)
  ·by_cases h3:Qc x.1 kL=true
   ·exact .inr (.inr (.inl h3))
   ·by_cases h4:Qc x.1 kP=true
    ·exact .inr (.inr (.inr h4))
    ·rw[if_neg h1,if_neg h2,if_neg h3,if_neg h4]at h;cases h
theorem Qsl{a b k:ByteArray}(h:Qc k a=true)(hab:Qc a b=false):Qc k b=false:=by rw[Xw]at h;rw[h];exact hab
theorem Zi8(F:Nat){k:ByteArray}{v:Int}(r:ByteArray)(hv:-999999999≤v∧v≤999999999):Qj9 F (k,v,r)=some (wM k v):=by
 unfold Qj9 tw;have hw:IntKind.wrap IntKind.i64 (0-v)= -v:=by rw[show IntKind.wrap IntKind.i64 (0-v)=w64 (0-v)from rfl,Zv (by omega) (by omega)];omega
 simp only[hw,Ze0,Yoh,Zl3];have g:∀x:Int,gd (Qm.eqv (Qd.val (Ty.int Go.IntKind.i64)::Qa Qd) x x) (some x)=some x:=by
  intro x;have:Qm.eqv (Qd.val (Ty.int Go.IntKind.i64)::Qa Qd) x x=true:=by change Qck x x=true;simp[Qck]
  rw[this];rfl
 unfold wM;cases Qc k kT<;>cases Qc k kL<;>cases Qc k kP<;>simp[g]
theorem Qoc{x:Mk}(h:Jj x):0≤x.2.1∧x.2.1≤863999999:=by
 unfold Jj Wc at h;split at h
 ·split at h
  ·cases h
  ·split at h
   ·cases h
   ·rename_i h3;have:x.2.1=0:=by simpa using h3
    omega
 ·split at h
  ·split at h
   ·cases h
   ·split at h
    ·cases h
    ·omega
  ·split at h
   ·split at h
    ·cases h
    ·split at h
     ·cases h
     ·omega
   ·split at h
    ·split at h
     ·cases h
     ·split at h
      ·cases h
      ·omega
    ·cases h
def wE(x:Mk):Int:=wM x.1 x.2.1
def Qe2(x y:Mk):Prop:=Qc x.1 kN=true∨Qc y.1 kN=true∨Qc x.1 y.1=true
theorem Ymn(F:Nat){x y:Mk}(hx:Jj x)(hy:Jj y):Qrr F (x,y)=some (Wr (wE x) (wE y)):=by
 unfold Qrr Wr wE;obtain⟨a1,a2⟩:=Qoc hx;obtain⟨b1,b2⟩:=Qoc hy;simp only[Zi8 F _ (show-999999999≤x.2.1∧x.2.1≤999999999 by omega),Zi8 F _ (show-999999999≤y.2.1∧y.2.1≤999999999 by omega),Option.bind_some];by_cases h1:wM y.1 y.2.1<wM x.1 x.2.1
 ·rw[Zw h1,if_pos h1]
 ·rw[Zz h1,if_neg h1];by_cases h2:wM x.1 x.2.1<wM y.1 y.2.1
  ·rw[Zw h2,if_pos h2]
  ·rw[Zz h2,if_neg h2]
theorem Zv4(F:Nat){x y:Mk}(h:Qe2 x y):Qon F (x,y)=some false:=by unfold Qon;simp only[Zcv];unfold Qe2 at h;cases h1:Qc x.1 y.1<;>cases h2:Qc x.1 kN<;>cases h3:Qc y.1 kN<;>simp_all
theorem Zph{F:Nat}(hF:400≤F){x y:Mk}(hx:Jj x)(hy:Jj y)(h:Qe2 x y):Qj2 F (x,y)=some (Wr (wE x) (wE y),0):=by
 unfold Qj2;have q:∀(a b c:Int),Wq F (a::b::c::Qa Int)=some (Qj [a,b,c]):=by intro a b c;rw[Qtm (by simp[Qa];omega) (by simp[Qa])];rfl
 have hx':=hx;have hy':=hy;unfold Jj at hx' hy';simp only[Q3,l99 hF,Zv4 F h,Zai,q,hx',hy',Option.bind_some,Ymn F hx hy];rfl
theorem kinds{x:Mk}(h:Jj x):(Qc x.1 kN=true∧wE x= -864000000)∨(Qc x.1 kN=false∧Qc x.1 kT=true∧wE x= -x.2.1)∨(Qc x.1 kN=false∧Qc x.1 kT=false∧wE x=x.2.1):=by
 have hk:=Zxg h;unfold kindOk at hk;unfold wE wM;cases hN:Qc x.1 kN with
 |true=>left;refine⟨rfl,?_⟩;rw[if_neg (by rw[Qsl hN rfl];simp),if_neg (by rw[Qsl hN rfl];simp),if_neg (by rw[Qsl hN rfl];simp)]
 |false=>
  right;cases hT:Qc x.1 kT with
  |true=>left;exact⟨rfl,rfl,by rw[if_pos rfl]⟩
  |false=>
   right;refine⟨rfl,rfl,?_⟩;rw[if_neg (by simp)];rcases hk with hk|hk|hk|hk
   ·rw[hk]at hN;cases hN
   ·rw[hk]at hT;cases hT
   ·rw[if_pos hk]
   ·by_cases hL:Qc x.1 kL=true
    ·rw[if_pos hL]
    ·rw[if_neg hL,if_pos hk]
theorem l57(F:Nat){x y:Mk}(hx:Jj x)(hy:Jj y)(h:Qe2 x y):c57 F (x,y)=some (Wr (wE x) (wE y)):=by
 unfold c57;obtain⟨a1,a2⟩:=Qoc hx;obtain⟨b1,b2⟩:=Qoc hy;simp only[Zcv,Ze0];have ne1:Qc x.1 kN=true→Qc y.1 kN=false→Qc x.1 y.1=false:=fun p q=>by
  cases e:Qc x.1 y.1 with
  |false=>rfl
  |true=>rw[Xw]at e;rw[←e,p]at q;cases q
 have ne2:Qc x.1 kN=false→Qc y.1 kN=true→Qc x.1 y.1=false:=fun p q=>by
  cases e:Qc x.1 y.1 with
  |false=>rfl
  |true=>rw[Xw]at e;rw[←e,p]at q;cases q
 have fin:∀a b:Int,(bif decide (b<a)then some (-1:Int)else bif decide (a<b)then some 1 else some 0)=some (Wr a b):=by
  intro a b;unfold Wr;by_cases h1:b<a
  ·rw[if_pos h1,Zw h1]
  ·rw[if_neg h1,Zz h1];by_cases h2:a<b
   ·rw[if_pos h2,Zw h2]
   ·rw[if_neg h2,Zz h2]
 rcases kinds hx with⟨p1,p2⟩|⟨p1,p3,p2⟩|⟨p1,p3,p2⟩
 ·rcases kinds hy with⟨q1,q2⟩|⟨q1,q3,q2⟩|⟨q1,q3,q2⟩
  ·have:Qc x.1 y.1=true:=by rw[Xw]at p1 q1⊢;rw[p1,q1]
   simp[p1,this,Wr,p2,q2]
  ·have h1:¬wE y<wE x:=by omega
   have h2:wE x<wE y:=by omega
   simp[p1,ne1 p1 q1,q1,Wr,h1,h2]
  ·have h1:¬wE y<wE x:=by omega
   have h2:wE x<wE y:=by omega
   simp[p1,ne1 p1 q1,q1,Wr,h1,h2]
 ·rcases kinds hy with⟨q1,q2⟩|⟨q1,q3,q2⟩|⟨q1,q3,q2⟩
  ·have h1:wE y<wE x:=by omega
   simp[p1,ne2 p1 q1,q1,Wr,h1]
  ·simp only[p1,q1,p3,cond_false,cond_true,Option.bind_some];rw[fin,p2,q2];unfold Wr;congr 1
   (repeat' split)<;>omega
  ·exfalso;rcases h with h|h|h
   ·rw[h]at p1;cases p1
   ·rw[h]at q1;cases q1
   ·rw[Xw]at h;rw[←h,p3]at q3;cases q3
 ·rcases kinds hy with⟨q1,q2⟩|⟨q1,q3,q2⟩|⟨q1,q3,q2⟩
  ·have h1:wE y<wE x:=by omega
   simp[p1,ne2 p1 q1,q1,Wr,h1]
  ·exfalso;rcases h with h|h|h
   ·rw[h]at p1;cases p1
   ·rw[h]at q1;cases q1
   ·rw[Xw]at h;rw[←h,p3]at q3;cases q3
  ·simp only[p1,q1,p3,cond_false,cond_true,Option.bind_some];rw[fin,p2,q2]
def mkE(x:Zt):Mk:=(x.2.2.1,x.2.2.2.1,x.2.2.2.2.1)
def dyE(x:Zt):Int:=x.2.2.2.2.2.1
structure Zoq (x y:Zt):Prop where
 mx:Jj (mkE x)
 my:Jj (mkE y)
 k:Qe2 (mkE x) (mkE y)
 dx:0≤dyE x∧dyE x≤99999
 dy:0≤dyE y∧dyE y≤99999
theorem tE:Q9=dE:=rfl
def Qw2(l:List Zt):Prop:=∀x∈l,∀y∈l,Zoq x y
theorem Qw2.take{l:List Zt}(h:Qw2 l)(i:Nat):Qw2 (l.take i):=fun x hx y hy=>h x (List.mem_of_mem_take hx) y (List.mem_of_mem_take hy)
end Go.Proofs.Tryz
section
namespace Go.Proofs.Tryz
open Go Go.Sx
end Go.Proofs.Tryz
end
namespace Go.Proofs.Tryz
open Go Go.Sx
def Qrq(l:List ByteArray)(c:ByteArray):Nat:=(l.filter fun x=>Qc x c).length
theorem Ynn(l:List ByteArray)(b c:ByteArray):Qrq (l++[b]) c=Qrq l c+if Qc b c=true then 1 else 0:=by unfold Qrq;rw[List.filter_append,List.length_append];cases h:Qc b c<;>simp[h]
def Qya(q:List (ByteArray×Int))(l:List ByteArray):Prop:=∀k,X3 Qc k q 0=(Qrq l k:Int)
theorem Qya.put{q:List (ByteArray×Int)}{l:List ByteArray}(h:Qya q l)(b:ByteArray):Qya (V8 Qc b (X3 Qc b q 0+1) q) (l++[b]):=by
 intro k;rw[Zak Qyo,Ynn];have h1:=h k;have h2:=h b;by_cases e:b=k
 ·subst e;simp[Ks,h1]
 ·simp[Qyb e,Qyb (fun h:k=b=>e h.symm),h1]
end Go.Proofs.Tryz
section
namespace Go.Proofs.Tryz
open Go Go.Sx
end Go.Proofs.Tryz
end
namespace Go.Proofs.Tryz
open Go Go.Sx
abbrev U2:=Ze
abbrev Q1:=Int×Zy
def Z9(s:ByteArray):Int:=if Xl s=true then 0 else 8
def Yw(n:Int):Int:=if Yl n=true then 3 else 0
def Qdp(l:List ByteArray):Int:=if 8<l.length then 5 else Qj (l.map Z9)
def Qe7(b:Q1):Int:=if b.2.2.2.2.2.2.1<b.2.2.2.2.2.1 then 11 else 0
def Qha(b:Q1):Int:=Wc b.2.2.2.2.2.2.2.1 b.2.2.2.2.2.2.2.2.1 b.2.2.2.2.2.2.2.2.2.1
def Jr(A C G K Fr T M N:Bool)(b:Q1):Bool:=
 (!A&& !Qc b.2.1 k0)||((!C&& !Qc b.2.2.1 k0)||((!G&& !Qc b.2.2.2.1 k0)||((!K&& !Qc b.2.2.2.2.1 k0)||((!Fr&& !decide (b.2.2.2.2.2.1=0))||((!T&& !decide (b.2.2.2.2.2.2.1=0))||
 ((!M&& !(b.2.2.2.2.2.2.2.1==k0&&(decide (b.2.2.2.2.2.2.2.2.1=0)&&(b.2.2.2.2.2.2.2.2.2.1==k0&&true))))||(!N&&decide ((0:Int)<(b.2.2.2.2.2.2.2.2.2.2.length:Int)))))))))
def Z7(A C G K Fr T M N L:Bool)(b:Q1):Int:=
 Qj [Yw b.1,bif A then Z9 b.2.1 else 0,bif C then Z9 b.2.2.1 else 0,bif G then Z9 b.2.2.2.1 else 0,bif K then Z9 b.2.2.2.2.1 else 0,bif Fr then Yw b.2.2.2.2.2.1 else 0,bif T then Yw b.2.2.2.2.2.2.1 else 0,
  bif L then Qe7 b else 0,bif M then Qha b else 0,bif N then Qdp b.2.2.2.2.2.2.2.2.2.2 else 0,if Jr A C G K Fr T M N b=true then 1 else 0]
theorem Qdu{F:Nat}{s:ByteArray}(hs:s.size<F)(h3:s.size≤300)(c:Int):Xn F (s,c)=some ((List.range s.size).any fun i=>decide (((s.get! i).toNat:Int)=c)):=by
 unfold Xn;refine Jq (List.range s.size) (fun(_:Unit) i=>(i:Int)) (fun x (_:Unit)=>if decide (((s.get! x).toNat:Int)=c)=true then .inr (.inl true)else .inl ()) (fun _=>(.inr ():Bool ⊕ Unit)) (fun _ _=>True) () (by simpa using hs) rfl trivial ?_ ?_ ?_
 ·intro i x _ hi hx _;refine⟨?_,fun _ _=>trivial⟩;obtain rfl:=Qgl hx;have hi':x<s.size:=by simpa using hi
  simp(disch:=omega)only[Zw,Zd,Int.toNat_natCast,Zv,Qvn];by_cases h:((s.get! x).toNat:Int)=c
  ·simp[h]
  ·simp[h]
 ·intro _ _;rw[List.length_range];simp(disch:=omega)only[Zz]
 ·rw[Qb1 (fun x=>decide (((s.get! x).toNat:Int)=c))];cases(List.range s.size).any fun x=>decide (((s.get! x).toNat:Int)=c)<;>rfl
theorem Zzr{F:Nat}(hF:400≤F){l:List ByteArray}(hl:l.length≤10):Qm0 F l=some (Qdp l):=by
 unfold Qm0 Qdp;by_cases h:8<l.length
 ·have h':(8:Int)<l.length:=by omega
  simp only[h,h',decide_true,cond_true,if_true]
 ·have h':¬(8:Int)<l.length:=by omega
  simp only[h,h',decide_false,cond_false,if_false];refine Qke l Z9 (by omega) ?_ ?_ ?_
  ·intro i x hi hx;simp(disch:=omega)only[Zw,Zd,Int.toNat_natCast,getD_some hx,Zv,l67 (show 400≤F by omega),Option.bind_some,Nat.zero_add];unfold Z9;cases Xl x<;>rfl
  ·simp(disch:=omega)only[Zz]
  ·by_cases h2:Qj (l.map Z9)=0<;>simp[h2]
def X1(b:Q1)(c:Int):Int:=
 if c=97 then Z9 b.2.1 else if c=99 then Z9 b.2.2.1 else if c=103 then Z9 b.2.2.2.1 else if c=102 then Yw b.2.2.2.2.2.1 else if c=116 then Yw b.2.2.2.2.2.2.1 else if c=107 then Z9 b.2.2.2.2.1
 else if c=109 then Qha b else Qdp b.2.2.2.2.2.2.2.2.2.2
theorem Ykq{F:Nat}(hF:400≤F)(b:Q1)(k:ByteArray)(hl:b.2.2.2.2.2.2.2.2.2.2.length≤10)(c:Int):Qrm F ((b.1,k,b.2),c)=some (X1 b c):=by
 unfold Qrm X1;simp only[Zhq hF,Zik,Qun,Zzr hF hl,Option.bind_some];by_cases h1:c=97
 ·simp only[h1,decide_true,cond_true,if_true];rfl
 ·by_cases h2:c=99
  ·subst h2;rfl
  ·by_cases h3:c=103
   ·subst h3;rfl
   ·by_cases h4:c=102
    ·subst h4;rfl
    ·by_cases h5:c=116
     ·subst h5;rfl
     ·by_cases h6:c=107
      ·subst h6;rfl
      ·by_cases h7:c=109
       ·subst h7;rfl
       ·simp only[h1,h2,h3,h4,h5,h6,h7,decide_false,cond_false,if_false]
def Ym:ByteArray:={data:=List.toArray ((99:UInt8)::(108:UInt8)::(117:UInt8)::(98:UInt8)::Qa UInt8)}
def Qin:ByteArray:={data:=List.toArray ((99:UInt8)::Qa UInt8)}
def Yk:ByteArray:={data:=List.toArray ((97:UInt8)::(116:UInt8)::(104:UInt8)::(108:UInt8)::(101:UInt8)::(116:UInt8)::(101:UInt8)::Qa UInt8)}
def Qgm:ByteArray:={data:=List.toArray ((97:UInt8)::(99:UInt8)::(103:UInt8)::(102:UInt8)::Qa UInt8)}
def Yx:ByteArray:={data:=List.toArray ((108:UInt8)::(105:UInt8)::(99:UInt8)::(101:UInt8)::(110:UInt8)::(99:UInt8)::(101:UInt8)::Qa UInt8)}
def Qgj:ByteArray:={data:=List.toArray ((97:UInt8)::(102:UInt8)::(116:UInt8)::Qa UInt8)}
def Yf:ByteArray:={data:=List.toArray ((116:UInt8)::(114:UInt8)::(97:UInt8)::(110:UInt8)::(115:UInt8)::(102:UInt8)::(101:UInt8)::(114:UInt8)::Qa UInt8)}
def Qid:ByteArray:={data:=List.toArray ((97:UInt8)::(99:UInt8)::Qa UInt8)}
def Yy:ByteArray:={data:=List.toArray ((101:UInt8)::(110:UInt8)::(116:UInt8)::(101:UInt8)::(114:UInt8)::Qa UInt8)}
def Qhd:ByteArray:={data:=List.toArray ((97:UInt8)::(107:UInt8)::(109:UInt8)::Qa UInt8)}
def Yv:ByteArray:={data:=List.toArray ((119:UInt8)::(105:UInt8)::(116:UInt8)::(104:UInt8)::(100:UInt8)::(114:UInt8)::(97:UInt8)::(119:UInt8)::Qa UInt8)}
def Qhe:ByteArray:={data:=List.toArray ((97:UInt8)::(107:UInt8)::Qa UInt8)}
def Yu:ByteArray:={data:=List.toArray ((99:UInt8)::(104:UInt8)::(101:UInt8)::(99:UInt8)::(107:UInt8)::Qa UInt8)}
def Qgw:ByteArray:={data:=List.toArray ((97:UInt8)::(107:UInt8)::Qa UInt8)}
def Yq:ByteArray:={data:=List.toArray ((116:UInt8)::(101:UInt8)::(97:UInt8)::(109:UInt8)::Qa UInt8)}
def Qie:ByteArray:={data:=List.toArray ((99:UInt8)::(107:UInt8)::(110:UInt8)::Qa UInt8)}
theorem Xd(x:Int)(l:List Int):Qj (x::l)=if x=0 then Qj l else x:=rfl
theorem Qay:∀(l m:List Int),Qj (l++m)=if Qj l=0 then Qj m else Qj l
 |[],m=>by simp[Qj]
 |x::l,m=>by rw[List.cons_append,Xd,Xd,Qay l m];by_cases h:x=0<;>simp[h]
theorem Zel(f i r:Bool):(bif !f then(bif i then some true else some r)else some r)=some ((!f&&i)||r):=by cases f<;>cases i<;>rfl
theorem Yas(f r:Bool):(bif !f then some r else some false)=some (!f&&r):=by cases f<;>rfl
theorem Qdd{F:Nat}(hF:400≤F)(b:Q1)(hl:b.2.2.2.2.2.2.2.2.2.2.length≤10)(w L:ByteArray)(A C G K Fr T M N lic:Bool)(fl:List Int)
  (e0:Kx F w=some L) (e1:Qc L {data:=List.toArray (Qa UInt8)}=false) (e2:Qc w {data:=List.toArray ((108:UInt8)::(105:UInt8)::(99:UInt8)::(101:UInt8)::(110:UInt8)::(99:UInt8)::(101:UInt8)::Qa UInt8)}=lic) (hs:L.size≤300)
  (qa:Xn F (L,97)=some A) (qc:Xn F (L,99)=some C) (qg:Xn F (L,103)=some G) (qk:Xn F (L,107)=some K) (qf:Xn F (L,102)=some Fr) (qt:Xn F (L,116)=some T) (qm:Xn F (L,109)=some M) (qn:Xn F (L,110)=some N)
  (hfl:(List.range L.size).map (fun i=>X1 b ((L.get! i).toNat:Int))=fl)
  (hg:Yw b.1=0→Z7 A C G K Fr T M N lic b=Qj (fl++[bif lic then Qe7 b else 0,if Jr A C G K Fr T M N b=true then 1 else 0])):c24 F (b.1,w,b.2)=some (Z7 A C G K Fr T M N lic b):=by
 have hk:({data:=List.toArray (Qa UInt8)}:ByteArray)=k0:=rfl;have hi:Qpp F (b.1,w,b.2) L=some ((!C&& !Qc b.2.2.1 k0)||((!G&& !Qc b.2.2.2.1 k0)||((!K&& !Qc b.2.2.2.2.1 k0)||((!Fr&& !decide (b.2.2.2.2.2.1=0))||((!T&& !decide (b.2.2.2.2.2.2.1=0))||
   ((!M&& !(b.2.2.2.2.2.2.2.1==k0&&(decide (b.2.2.2.2.2.2.2.2.1=0)&&(b.2.2.2.2.2.2.2.2.2.1==k0&&true))))||(!N&&decide ((0:Int)<(b.2.2.2.2.2.2.2.2.2.2.length:Int))))))))):=by
  unfold Qpp Qsd Quy Qur Qu8 Qx5 Qvy;simp only[qc,qg,qk,qf,qt,qm,qn,Option.bind_some,Yas,Zel,hk]
 unfold c24;simp only[e0,e1,Quq,Option.bind_some,cond_false];by_cases hd:Xr b.1 99999=true
 ·have:Yw b.1=3:=by unfold Yw;rw[Quj,if_pos hd]
  simp[hd,Z7,this,Qj]
 ·have hd0:Yw b.1=0:=by unfold Yw;rw[Quj,if_neg hd]
  have hd':Xr b.1 99999=false:=by simpa using hd
  simp only[hd',cond_false];refine Um L.size (fun i=>X1 b ((L.get! i).toNat:Int)) (by omega) (by omega) ?_ ?_ ?_
  ·intro i hi;have hb:=Ykq hF b w hl ((L.get! i).toNat:Int);simp(disch:=omega)only[Zw,Zd,Int.toNat_natCast,Zv,Qvn,Q3,hb,Option.bind_some,Qcv]
  ·simp(disch:=omega)only[Zz]
  ·rw[hfl,hg hd0,Qay];by_cases hz:Qj fl=0
   ·simp only[hz,if_true,Sum.elim_inr,e2,qa,hi,hk,Zel,Option.bind_some];unfold Jr Qe7;generalize ((!A&& !Qc b.2.1 k0)||_)=iv;cases lic
    ·cases iv<;>rfl
    ·by_cases ho:b.2.2.2.2.2.2.1<b.2.2.2.2.2.1
     ·simp[ho,Xd]
     ·simp only[ho,decide_false,cond_true,cond_false,if_false,Option.bind_some];cases iv<;>rfl
   ·simp only[hz,if_false,Sum.elim_inl]
theorem Zyy(G:Nat):Kx (G+9) Ym=some Qin:=by kernel_rfl
theorem Zrw{F:Nat}(hF:400≤F)(b:Q1)(hl:b.2.2.2.2.2.2.2.2.2.2.length≤10):c24 F (b.1,Ym,b.2)=some (Z7 false true false false false false false false false b):=by
 have hsz:Qin.size=1:=rfl;have e3:∀c:Int,Xn F (Qin,c)=some ((List.range Qin.size).any fun i=>decide (((Qin.get! i).toNat:Int)=c)):=fun c=>Qdu (by omega) (by omega) c;refine Qdd hF b hl Ym Qin false true false false false false false false false [X1 b 99] ?_ rfl rfl (by omega) ((e3 97).trans rfl) ((e3 99).trans rfl) ((e3 103).trans rfl) ((e3 107).trans rfl) ((e3 102).trans rfl) ((e3 116).trans rfl) ((e3 109).trans rfl) ((e3 110).trans rfl) rfl fun hd=>?_
 ·obtain⟨G,rfl⟩:∃G,F=G+9:=⟨F-9,by omega⟩;exact Zyy G
 ·unfold Z7;simp only[Xd,hd,cond_true,cond_false,if_true,List.cons_append,List.nil_append];rfl
theorem Yac(G:Nat):Kx (G+9) Yk=some Qgm:=by kernel_rfl
theorem Yh3{F:Nat}(hF:400≤F)(b:Q1)(hl:b.2.2.2.2.2.2.2.2.2.2.length≤10):c24 F (b.1,Yk,b.2)=some (Z7 true true true false true false false false false b):=by
 have hsz:Qgm.size=4:=rfl;have e3:∀c:Int,Xn F (Qgm,c)=some ((List.range Qgm.size).any fun i=>decide (((Qgm.get! i).toNat:Int)=c)):=fun c=>Qdu (by omega) (by omega) c;refine Qdd hF b hl Yk Qgm true true true false true false false false false [X1 b 97,X1 b 99,X1 b 103,X1 b 102] ?_ rfl rfl (by omega) ((e3 97).trans rfl) ((e3 99).trans rfl) ((e3 103).trans rfl) ((e3 107).trans rfl) ((e3 102).trans rfl) ((e3 116).trans rfl) ((e3 109).trans rfl) ((e3 110).trans rfl) rfl fun hd=>?_
 ·obtain⟨G,rfl⟩:∃G,F=G+9:=⟨F-9,by omega⟩;exact Yac G
 ·unfold Z7;simp only[Xd,hd,cond_true,cond_false,if_true,List.cons_append,List.nil_append];rfl
theorem Zuz(G:Nat):Kx (G+9) Yx=some Qgj:=by kernel_rfl
theorem Yhh{F:Nat}(hF:400≤F)(b:Q1)(hl:b.2.2.2.2.2.2.2.2.2.2.length≤10):c24 F (b.1,Yx,b.2)=some (Z7 true false false false true true false false true b):=by
 have hsz:Qgj.size=3:=rfl;have e3:∀c:Int,Xn F (Qgj,c)=some ((List.range Qgj.size).any fun i=>decide (((Qgj.get! i).toNat:Int)=c)):=fun c=>Qdu (by omega) (by omega) c;refine Qdd hF b hl Yx Qgj true false false false true true false false true [X1 b 97,X1 b 102,X1 b 116] ?_ rfl rfl (by omega) ((e3 97).trans rfl) ((e3 99).trans rfl) ((e3 103).trans rfl) ((e3 107).trans rfl) ((e3 102).trans rfl) ((e3 116).trans rfl) ((e3 109).trans rfl) ((e3 110).trans rfl) rfl fun hd=>?_
 ·obtain⟨G,rfl⟩:∃G,F=G+9:=⟨F-9,by omega⟩;exact Zuz G
 ·unfold Z7;simp only[Xd,hd,cond_true,cond_false,if_true,List.cons_append,List.nil_append];rfl
theorem Zpj(G:Nat):Kx (G+9) Yf=some Qid:=by kernel_rfl
theorem Zx1{F:Nat}(hF:400≤F)(b:Q1)(hl:b.2.2.2.2.2.2.2.2.2.2.length≤10):c24 F (b.1,Yf,b.2)=some (Z7 true true false false false false false false false b):=by
 have hsz:Qid.size=2:=rfl;have e3:∀c:Int,Xn F (Qid,c)=some ((List.range Qid.size).any fun i=>decide (((Qid.get! i).toNat:Int)=c)):=fun c=>Qdu (by omega) (by omega) c;refine Qdd hF b hl Yf Qid true true false false false false false false false [X1 b 97,X1 b 99] ?_ rfl rfl (by omega) ((e3 97).trans rfl) ((e3 99).trans rfl) ((e3 103).trans rfl) ((e3 107).trans rfl) ((e3 102).trans rfl) ((e3 116).trans rfl) ((e3 109).trans rfl) ((e3 110).trans rfl) rfl fun hd=>?_
 ·obtain⟨G,rfl⟩:∃G,F=G+9:=⟨F-9,by omega⟩;exact Zpj G
 ·unfold Z7;simp only[Xd,hd,cond_true,cond_false,if_true,List.cons_append,List.nil_append];rfl
theorem Znf(G:Nat):Kx (G+9) Yy=some Qhd:=by kernel_rfl
theorem Zt8{F:Nat}(hF:400≤F)(b:Q1)(hl:b.2.2.2.2.2.2.2.2.2.2.length≤10):c24 F (b.1,Yy,b.2)=some (Z7 true false false true false false true false false b):=by
 have hsz:Qhd.size=3:=rfl;have e3:∀c:Int,Xn F (Qhd,c)=some ((List.range Qhd.size).any fun i=>decide (((Qhd.get! i).toNat:Int)=c)):=fun c=>Qdu (by omega) (by omega) c;refine Qdd hF b hl Yy Qhd true false false true false false true false false [X1 b 97,X1 b 107,X1 b 109] ?_ rfl rfl (by omega) ((e3 97).trans rfl) ((e3 99).trans rfl) ((e3 103).trans rfl) ((e3 107).trans rfl) ((e3 102).trans rfl) ((e3 116).trans rfl) ((e3 109).trans rfl) ((e3 110).trans rfl) rfl fun hd=>?_
 ·obtain⟨G,rfl⟩:∃G,F=G+9:=⟨F-9,by omega⟩;exact Znf G
 ·unfold Z7;simp only[Xd,hd,cond_true,cond_false,if_true,List.cons_append,List.nil_append];rfl
theorem Ykr(G:Nat):Kx (G+9) Yv=some Qhe:=by kernel_rfl
theorem Yat{F:Nat}(hF:400≤F)(b:Q1)(hl:b.2.2.2.2.2.2.2.2.2.2.length≤10):c24 F (b.1,Yv,b.2)=some (Z7 true false false true false false false false false b):=by
 have hsz:Qhe.size=2:=rfl;have e3:∀c:Int,Xn F (Qhe,c)=some ((List.range Qhe.size).any fun i=>decide (((Qhe.get! i).toNat:Int)=c)):=fun c=>Qdu (by omega) (by omega) c;refine Qdd hF b hl Yv Qhe true false false true false false false false false [X1 b 97,X1 b 107] ?_ rfl rfl (by omega) ((e3 97).trans rfl) ((e3 99).trans rfl) ((e3 103).trans rfl) ((e3 107).trans rfl) ((e3 102).trans rfl) ((e3 116).trans rfl) ((e3 109).trans rfl) ((e3 110).trans rfl) rfl fun hd=>?_
 ·obtain⟨G,rfl⟩:∃G,F=G+9:=⟨F-9,by omega⟩;exact Ykr G
 ·unfold Z7;simp only[Xd,hd,cond_true,cond_false,if_true,List.cons_append,List.nil_append];rfl
theorem Yai(G:Nat):Kx (G+9) Yu=some Qgw:=by kernel_rfl
theorem Ycb{F:Nat}(hF:400≤F)(b:Q1)(hl:b.2.2.2.2.2.2.2.2.2.2.length≤10):c24 F (b.1,Yu,b.2)=some (Z7 true false false true false false false false false b):=by
 have hsz:Qgw.size=2:=rfl;have e3:∀c:Int,Xn F (Qgw,c)=some ((List.range Qgw.size).any fun i=>decide (((Qgw.get! i).toNat:Int)=c)):=fun c=>Qdu (by omega) (by omega) c;refine Qdd hF b hl Yu Qgw true false false true false false false false false [X1 b 97,X1 b 107] ?_ rfl rfl (by omega) ((e3 97).trans rfl) ((e3 99).trans rfl) ((e3 103).trans rfl) ((e3 107).trans rfl) ((e3 102).trans rfl) ((e3 116).trans rfl) ((e3 109).trans rfl) ((e3 110).trans rfl) rfl fun hd=>?_
 ·obtain⟨G,rfl⟩:∃G,F=G+9:=⟨F-9,by omega⟩;exact Yai G
 ·unfold Z7;simp only[Xd,hd,cond_true,cond_false,if_true,List.cons_append,List.nil_append];rfl
theorem Ygk(G:Nat):Kx (G+9) Yq=some Qie:=by kernel_rfl
theorem Zuw{F:Nat}(hF:400≤F)(b:Q1)(hl:b.2.2.2.2.2.2.2.2.2.2.length≤10):c24 F (b.1,Yq,b.2)=some (Z7 false true false true false false false true false b):=by
 have hsz:Qie.size=3:=rfl;have e3:∀c:Int,Xn F (Qie,c)=some ((List.range Qie.size).any fun i=>decide (((Qie.get! i).toNat:Int)=c)):=fun c=>Qdu (by omega) (by omega) c;refine Qdd hF b hl Yq Qie false true false true false false false true false [X1 b 99,X1 b 107,X1 b 110] ?_ rfl rfl (by omega) ((e3 97).trans rfl) ((e3 99).trans rfl) ((e3 103).trans rfl) ((e3 107).trans rfl) ((e3 102).trans rfl) ((e3 116).trans rfl) ((e3 109).trans rfl) ((e3 110).trans rfl) rfl fun hd=>?_
 ·obtain⟨G,rfl⟩:∃G,F=G+9:=⟨F-9,by omega⟩;exact Ygk G
 ·unfold Z7;simp only[Xd,hd,cond_true,cond_false,if_true,List.cons_append,List.nil_append];rfl
end Go.Proofs.Tryz
section

end
