/-
Types, and the words of packages limbs and ulpref03: out of their contracts.
Package raw: numbers, first part.
Package raw: numbers, second part.
Package raw: intervals.
Dyadic numbers: sizes of what is reckoned. Plain.
Package raw: intervals, reckoned with.
Symbolic execution, seventeenth part: words told by patterns; words that forget which memory is new; what can be known of arguments.
Dyadic numbers as rational numbers: what is reckoned, and order. Plain.
Package ulpref04.
The references' naturals (ulpref03): short.
Dyadic numbers as rational numbers: tops, narrowness, one form. Plain.
The next numbers of so many bits, down and up. Plain.
Quotients and roots: the next numbers of so many bits. Plain.
Roots; products and quotients of what lies between ends. Plain.
Numbers told as limits of sums of rational numbers: finite sums, limits, products of sums. Plain.
Products of sums that fall off by halves. Plain.
Sine and cosine as limits: the sums of divided powers, sums of angles. Plain.
Sine and cosine as limits, second part: sums of angles, the circle, the mirror; enclosures of products. Plain.
Sine and cosine as alternating sums of the powers of the square. Plain.
Numbers in so many bits with a bound of their error. Plain.
Numbers in so many bits with their error: packages series and ulpref09.
Package ival: the words of its functions that reckon with nothing but their arguments.
Package ival: the words of all its functions.
Package ulpref06.
Package series: Sum, of the terms of a sine.
The sums of a sine's terms in so many bits: how great they are, what they enclose. Plain.
How far a rounding lies from what is rounded; narrow intervals. Plain.
Numbers in so many bits with their error: package ulpref09.
Intervals as rational numbers: what is reckoned of what lies in them lies in the answer; of parts, within; with more bits, within. Plain.
Intervals as rational numbers, second part: quotients, roots; what the statements of ulplaw06 ask. Plain.
Whole parts, numbers from intervals, squares; what is few enough. Plain.
Package ulpref06: sums and products.
Package sincore.
Package ulpref13.
Sines and cosines: what the intervals enclose, how narrow they are, that they have room. Plain.
The whole number next to a number, its rest by 4; one form. Plain.
Package raw: powers of 2, the nearest whole number, its rest by 4.
The references' naturals (ulpref03): Div, plain part.
The references' naturals (ulpref03): Div.
The references' quotient of two numbers is the program's. Plain.
-/
import Derived.Test.YtbboniaeoegeeaaGreatDoorMg1
import Derived.Deep.QuietTactic
import Derived.BigQuiet
import Derived.StillTailTactics
import Derived.Test.YtbboniaeoegeeaaGreatDoorMg0
namespace Go.Proofs.YtbboniaeoegeeaaGreatDoor
open Go.RowKit
def zD:List At:=[.bool false,.words true [],.int .i64 0]
def tyD:TyRow:=⟨25,3,true,zD,.struct [(0,1,false),(1,1,false),(2,1,false)]⟩
def zV:List At:=[.bool false,.words true [],.int .i64 0,.bool false,.words true [],.int .i64 0]
def tyV:TyRow:=⟨27,6,true,zV,.struct [(0,3,true),(3,3,true)]⟩
def tyInt:TyRow:=⟨3,1,false,[.int .i64 0],.int .i64⟩
def tyBool:TyRow:=⟨4,1,false,[.bool false],.bool⟩
def tyNat:TyRow:=⟨23,1,false,[.words true []],.slice 1 false true⟩
def tyWs:TyRow:=⟨22,1,false,[.words true []],.slice 1 false true⟩
def tyU64:TyRow:=⟨45,1,false,[.int .u64 0],.int .u64⟩
def tyI64:TyRow:=⟨2,1,false,[.int .i64 0],.int .i64⟩
def tyErr:TyRow:=⟨28,1,false,[.int .i64 0],.int .i64⟩
def tyDs:TyRow:=⟨53,1,false,[.words true []],.slice 3 true false⟩
def tyU8:TyRow:=⟨5,1,false,[.int .u8 0],.int .u8⟩
def tys:List TyRow:=[tyD,tyV,tyInt,tyBool,tyNat,tyWs,tyErr,tyU64,tyI64,tyDs,tyU8]
theorem tys_ok:RowsOk Tryz.prog tys:=⟨by kernel_rfl,by kernel_rfl,by kernel_rfl,by kernel_rfl,by kernel_rfl,by kernel_rfl,by kernel_rfl,by kernel_rfl,by kernel_rfl,by kernel_rfl,by kernel_rfl,trivial⟩
theorem mixed:Tryz.prog.follows .mixedOrders=true:=by kernel_rfl
abbrev iT(n:Int):Tv:=.sv (.one (.int .i64 n))
abbrev bT(b:Bool):Tv:=.sv (.one (.bool b))
abbrev wT(xs:List Int):Tv:=.sv (.one (.words true xs))
abbrev dT(d:Dx):Tv:=.sv (.agg (dyL true d))
abbrev vT(v:Vx):Tv:=.sv (.agg (ivL true v))
section
variable {C:Base} {w w':World} {v:Value}
theorem quiet_back{P:Program}{f:FuncId}{args:Array Value}{v:Value}(h:Calls P f args w fun e w'=>e = .returned v∧w=w'):Calls P f args w (RVal w v) :=
  h.mono fun _ _ ⟨e,h2⟩=>⟨e,by rw [h2];exact .refl _ _⟩
theorem natB_back{P:Program}{f:FuncId}{args:Array Value}{xs:List Int}{b:Bool}(hC:C.n=w.heap.size)(hX:∀ g,C.X g→g<C.n)(h:Calls P f args w (RNatB w xs b)) :
    Calls P f args w fun e w'=>∃ v,e = .returned v∧RepT C noBox w' v (.tup [.one (.words true xs),.one (.bool b)])∧Below w.heap.size w w' :=
  h.mono fun _ _ ⟨v,e,h1,h2⟩=>⟨_,e,⟨[v,.bool b],rfl,rep_new hC hX h1,Rep.bool b,trivial⟩,h2⟩
theorem nat2_back{P:Program}{f:FuncId}{args:Array Value}{xs ys:List Int}(hC:C.n=w.heap.size)(hX:∀ g,C.X g→g<C.n)(h:Calls P f args w (RNat2 w xs ys)) :
    Calls P f args w fun e w'=>∃ v,e = .returned v∧RepT C noBox w' v (.tup [.one (.words true xs),.one (.words true ys)])∧Below w.heap.size w w' :=
  h.mono fun _ _ ⟨v,v',e,h1,h2,h3⟩=>⟨_,e,⟨[v,v'],rfl,rep_new hC hX h1,rep_new hC hX h2,trivial⟩,h3⟩
theorem natW_back{P:Program}{f:FuncId}{args:Array Value}{xs:List Int}{y:Int}(hC:C.n=w.heap.size)(hX:∀ g,C.X g→g<C.n)(h:Calls P f args w (RNatW w xs y)) :
    Calls P f args w fun e w'=>∃ v,e = .returned v∧RepT C noBox w' v (.tup [.one (.words true xs),.one (.int .u64 y)])∧Below w.heap.size w w' :=
  h.mono fun _ _ ⟨v,e,h1,h2⟩=>⟨_,e,⟨[v,.int .u64 y],rfl,rep_new hC hX h1,Rep.int _ _,trivial⟩,h2⟩
end
def lLen:Spec:=specK [.w] fun (xs:List Int)=>(none,iT (blen (val xs)))
theorem lLen_ok:SpecOk Tryz.prog 91 lLen :=
  handK_ok Tryz.func91 rfl (by decide) fun _ _ _ _ _=>fun _ _ _ h _=>int_back (quiet_back (len_calls (rep_natAt h)))
def lLow:Spec:=specK [.w] fun (xs:List Int)=>(none,iT (tz (val xs)))
theorem lLow_ok:SpecOk Tryz.prog 103 lLow :=
  handK_ok Tryz.func103 rfl (by decide) fun _ _ _ _ hT=>fun _ _ _ h _=>int_back (quiet_back (low_calls hT (rep_natAt h)))
def lOf:Spec:=specK [.i .u64] fun (x:Int)=>(some (Word x),wT (ws x))
theorem lOf_ok:SpecOk Tryz.prog 102 lOf :=
  handK_ok Tryz.func102 rfl (by decide) fun _ _ hC hX _=>fun _ _ v h hp=>by
    obtain rfl:=repS_int h
    exact nat_back hC hX (of_calls _ _ hp)
def lCmp:Spec:=specK [.w,.w] fun (xs:List Int) (ys:List Int)=>(none,iT (cmpI (val xs) (val ys)))
theorem lCmp_ok:SpecOk Tryz.prog 84 lCmp :=
  handK_ok Tryz.func84 rfl (by decide) fun _ _ _ _ _=>fun _ _ _ h _ _ _ h' _=>int_back ((lcmp_calls (rep_natAt h) (rep_natAt h')).mono fun _ _ h=>h)
def lAdd:Spec:=specK [.w,.w] fun (xs:List Int) (ys:List Int)=>(some (xs.length≤17592186044414∧ys.length≤17592186044414),wT (ws (val xs+val ys)))
theorem lAdd_ok:SpecOk Tryz.prog 87 lAdd :=
  handK_ok Tryz.func87 rfl (by decide) fun _ _ hC hX _=>fun _ _ _ h _ _ _ h' hp=>nat_back hC hX (ladd_calls (rep_natAt h) (rep_natAt h') hp.1 hp.2)
def lSub:Spec:=specK [.w,.w] fun (xs:List Int) (ys:List Int)=>(some (val ys≤val xs),wT (ws (val xs-val ys)))
theorem lSub_ok:SpecOk Tryz.prog 88 lSub :=
  handK_ok Tryz.func88 rfl (by decide) fun _ _ hC hX _=>fun _ _ _ h _ _ _ h' hp=>nat_back hC hX (lsub_calls (rep_natAt h) (rep_natAt h') hp)
def lMul:Spec:=specK [.w,.w] fun (xs:List Int) (ys:List Int)=>(some ((ws (val xs)).length+(ws (val ys)).length≤17592186044415),wT (ws (val xs*val ys)))
theorem lMul_ok:SpecOk Tryz.prog 90 lMul :=
  handK_ok Tryz.func90 rfl (by decide) fun _ _ hC hX _=>fun _ _ _ h _ _ _ h' hp=>nat_back hC hX (lmul_calls (rep_natAt h) (rep_natAt h') hp)
def lShl:Spec:=specK [.w,.i .i64] fun (xs:List Int) (n:Int)=>(some (0≤n∧n≤1099511627776∧(ws (val xs)).length≤8796093022208),wT (ws (val xs*2^n.toNat)))
theorem lShl_ok:SpecOk Tryz.prog 93 lShl :=
  handK_ok Tryz.func93 rfl (by decide) fun _ _ hC hX _=>fun _ _ _ h n _ v h' hp=>by
    obtain rfl:=repS_int h'
    have h0:(0:Int)≤n:=hp.1
    exact nat_back hC hX (lshl_calls n (n/64).toNat (n % 64).toNat (rep_natAt h) hp.1 hp.2.1 (by have h0:(0:Int)≤n:=hp.1;omega) (by omega) hp.2.2)
def lShr:Spec:=specK [.w,.i .i64] fun (xs:List Int) (n:Int)=>(some (0≤n∧n≤9007199254740992),.tup [.one (.words true (ws (val xs/2^n.toNat))),.one (.bool (lostB (val xs) n.toNat))])
theorem lShr_ok:SpecOk Tryz.prog 101 lShr :=
  handK_ok Tryz.func101 rfl (by decide) fun _ _ hC hX hT=>fun _ _ _ h n _ v h' hp=>by
    obtain rfl:=repS_int h'
    have h0:(0:Int)≤n:=hp.1
    exact natB_back hC hX (lshr_calls n (n/64).toNat (n % 64).toNat hT (rep_natAt h) hp.1 hp.2 (by have h0:(0:Int)≤n:=hp.1;omega) (by omega))
def lShort:Spec:=specK [.w,.i .u64] fun (xs:List Int) (d:Int)=>(some (Word d∧0<d),.tup [.one (.words true (ws (val xs/d))),.one (.int .u64 (val xs % d))])
theorem lShort_ok:SpecOk Tryz.prog 108 lShort :=
  handK_ok Tryz.func108 rfl (by decide) fun _ _ hC hX _=>fun _ _ _ h n _ v h' hp=>by
    obtain rfl:=repS_int h'
    exact natW_back hC hX (lshort_calls (rep_natAt h) hp.1 hp.2)
def lDiv:Spec:=specK [.w,.w] fun (xs:List Int) (ys:List Int)=>(some (0<val ys∧(ws (val xs)).length≤8796093022206),.tup [.one (.words true (ws (val xs/val ys))),.one (.words true (ws (val xs % val ys)))])
theorem lDiv_ok:SpecOk Tryz.prog 92 lDiv :=
  handK_ok Tryz.func92 rfl (by decide) fun _ _ hC hX hT=>fun _ _ _ h _ _ _ h' hp=>nat2_back hC hX (ldiv_calls hT (rep_natAt h) (rep_natAt h') hp.1 hp.2)
def lSqrt:Spec:=specK [.w] fun (xs:List Int)=>(some ((ws (val xs)).length≤1073741824),.tup [.one (.words true (ws (isq (val xs)))),.one (.words true (ws (val xs-isq (val xs)*isq (val xs))))])
theorem lSqrt_ok:SpecOk Tryz.prog 96 lSqrt :=
  handK_ok Tryz.func96 rfl (by decide) fun _ _ hC hX hT=>fun _ _ _ h hp=>nat2_back hC hX (lsqrt_calls hT (rep_natAt h) hp)
def lTrim:Spec:=specK [.w] fun (xs:List Int)=>(none,.sv (.one (.words false (ws (val xs)))))
theorem trim_in{D:Nat→Prop}{w:World}{v:Value}{xs:List Int}(h:NatIn D w v xs):Calls Tryz.prog 95 #[v] w fun e w'=>∃ v,e = .returned v∧NatIn D w v (ws (val xs))∧w=w':=by
  obtain ⟨A,c,rfl,h1,⟨h2,h2'⟩,h3,h5,h4⟩:=h
  by_cases hp:0<xs.length
  · obtain ⟨g,o,rfl,hD,hg,hcell⟩:=h4 hp
    refine (trim_core g o c xs w h1 h2 h2' hcell).mono ?_
    rintro e w' ⟨rfl,rfl⟩
    have hle:=trimTo_le xs xs.length
    have htk:=take_trimTo h3
    have hlen:=trimTo_length h3
    refine ⟨_,rfl,⟨some ⟨g,o,none⟩,trimTo xs xs.length,by rw [←hlen],by omega,⟨by omega,by omega⟩,words_ws _,by simp,fun _=>⟨g,o,rfl,hD,hg,fun j hj=>?_⟩⟩,rfl⟩
    rw [←hlen] at hj
    rw [hcell j (by omega),←htk,nth_take hj]
  · obtain rfl:xs = []:=List.eq_nil_of_length_eq_zero (by omega)
    refine (trim_empty A c w h2).mono ?_
    rintro e w' ⟨⟨A',rfl⟩,rfl⟩
    refine ⟨_,rfl,⟨A',0,by simp [val,ws_zero],by simp [val,ws_zero],⟨by omega,by simp [val,ws_zero]⟩,words_ws _,fun _=>rfl,fun hx=>absurd hx (by simp [val,ws_zero])⟩,rfl⟩
theorem lTrim_ok:SpecOk Tryz.prog 95 lTrim :=
  handK_ok Tryz.func95 rfl (by decide) fun C w hC hX _=>fun xs _ v h _=>by
    cases (show Rep C noBox w v (.words false xs) from h) with
    | words h =>
      refine (trim_in h).mono ?_
      rintro e w' ⟨v,rfl,h,rfl⟩
      exact ⟨v,rfl,Rep.words h,.refl _ _⟩
def nNorm:Spec:=specK [.w] fun (xs:List Int)=>(none,wT (ws (val xs)))
theorem nNorm_ok:SpecOk Tryz.prog 76 nNorm :=
  handK_ok Tryz.func76 rfl (by decide) fun _ _ hC hX _=>fun _ _ _ h _=>nat_back hC hX (norm_calls (rep_natAt h))
def nGreat:Spec:=specK [.w] fun (xs:List Int)=>(none,bT (greatB (val xs)))
theorem nGreat_ok:SpecOk Tryz.prog 62 nGreat :=
  handK_ok Tryz.func62 rfl (by decide) fun _ _ _ _ _=>fun _ _ _ h _=>bool_back (quiet_back (great_calls (rep_natAt h)))
def nOf:Spec:=specK [.i .u64] fun (x:Int)=>(some (Word x),wT (ws x))
theorem nOf_ok:SpecOk Tryz.prog 50 nOf :=
  handK_ok Tryz.func50 rfl (by decide) fun _ _ hC hX _=>fun _ _ v h hp=>by
    obtain rfl:=repS_int h
    exact nat_back hC hX (of3_calls _ _ hp)
def nLen:Spec:=specK [.w] fun (xs:List Int)=>(none,iT (blen (val xs)))
theorem nLen_ok:SpecOk Tryz.prog 73 nLen :=
  handK_ok Tryz.func73 rfl (by decide) fun _ _ _ _ _=>fun _ _ _ h _=>int_back (len3_calls (rep_natAt h))
def nLow:Spec:=specK [.w] fun (xs:List Int)=>(none,iT (tz (val xs)))
theorem nLow_ok:SpecOk Tryz.prog 78 nLow :=
  handK_ok Tryz.func78 rfl (by decide) fun _ _ _ _ _=>fun _ _ _ h _=>int_back (low3_calls (rep_natAt h))
def nCmp:Spec:=specK [.w,.w] fun (xs:List Int) (ys:List Int)=>(none,iT (cmpI (val xs) (val ys)))
theorem nCmp_ok:SpecOk Tryz.prog 69 nCmp :=
  handK_ok Tryz.func69 rfl (by decide) fun _ _ _ _ _=>fun _ _ _ h _ _ _ h' _=>int_back (quiet_back (cmp3_calls (rep_natAt h) (rep_natAt h')))
def nSame:Spec:=specK [.w,.w] fun (xs:List Int) (ys:List Int)=>(none,bT (decide (xs=ys)))
theorem nSame_ok:SpecOk Tryz.prog 48 nSame :=
  handK_ok Tryz.func48 rfl (by decide) fun _ _ _ _ _=>fun _ _ _ h _ _ _ h' _=>bool_back (same3_calls (rep_natAt h) (rep_natAt h'))
def nAdd:Spec:=specK [.w,.w] fun (xs:List Int) (ys:List Int)=>(some (xs.length≤17592186044414∧ys.length≤17592186044414),wT (ws (val xs+val ys)))
theorem nAdd_ok:SpecOk Tryz.prog 68 nAdd :=
  handK_ok Tryz.func68 rfl (by decide) fun _ _ hC hX _=>fun _ _ _ h _ _ _ h' hp=>nat_back hC hX (add3_calls (rep_natAt h) (rep_natAt h') hp.1 hp.2)
def nSub:Spec:=specK [.w,.w] fun (xs:List Int) (ys:List Int)=>(some (val ys≤val xs∧xs.length≤17592186044414∧ys.length≤17592186044414),wT (ws (val xs-val ys)))
theorem nSub_ok:SpecOk Tryz.prog 70 nSub :=
  handK_ok Tryz.func70 rfl (by decide) fun _ _ hC hX _=>fun _ _ _ h _ _ _ h' hp=>nat_back hC hX (sub3_calls (rep_natAt h) (rep_natAt h') hp.2.1 hp.2.2 hp.1)
def nMul:Spec:=specK [.w,.w] fun (xs:List Int) (ys:List Int)=>(some ((ws (val xs)).length+(ws (val ys)).length≤17592186044414),wT (ws (val xs*val ys)))
theorem nMul_ok:SpecOk Tryz.prog 72 nMul :=
  handK_ok Tryz.func72 rfl (by decide) fun _ _ hC hX _=>fun _ _ _ h _ _ _ h' hp=>nat_back hC hX (mul3_calls (rep_natAt h) (rep_natAt h') hp)
def nShl:Spec:=specK [.w,.i .i64] fun (xs:List Int) (n:Int)=>(some (0≤n∧n≤1099511627776∧xs.length≤8796093022208),wT (ws (val xs*2^n.toNat)))
theorem nShl_ok:SpecOk Tryz.prog 67 nShl :=
  handK_ok Tryz.func67 rfl (by decide) fun _ _ hC hX _=>fun _ _ _ h n _ v h' hp=>by
    obtain rfl:=repS_int h'
    exact nat_back hC hX (shl3_calls n (rep_natAt h) hp.1 hp.2.1 hp.2.2)
def nShr:Spec:=specK [.w,.i .i64] fun (xs:List Int) (n:Int)=>(some (0≤n∧n≤9007199254740992),.tup [.one (.words true (ws (val xs/2^n.toNat))),.one (.bool (lostB (val xs) n.toNat))])
theorem nShr_ok:SpecOk Tryz.prog 79 nShr :=
  handK_ok Tryz.func79 rfl (by decide) fun _ _ hC hX _=>fun _ _ _ h n _ v h' hp=>by
    obtain rfl:=repS_int h'
    exact natB_back hC hX (shr3_calls n (rep_natAt h) hp.1 hp.2)
def sLimbs:List (FuncId×Spec):=[(91,lLen),(103,lLow),(102,lOf),(84,lCmp),(87,lAdd),(88,lSub),(90,lMul),(93,lShl),
  (101,lShr),(108,lShort),(92,lDiv),(96,lSqrt),(95,lTrim)]
theorem sLimbs_ok:SpecsOk Tryz.prog sLimbs:=⟨lLen_ok,lLow_ok,lOf_ok,lCmp_ok,lAdd_ok,lSub_ok,lMul_ok,lShl_ok,lShr_ok,lShort_ok,lDiv_ok,lSqrt_ok,lTrim_ok,trivial⟩
def sRef3:List (FuncId×Spec):=[(76,nNorm),(62,nGreat),(50,nOf),(73,nLen),(78,nLow),(69,nCmp),(48,nSame),
  (68,nAdd),(70,nSub),(72,nMul),(67,nShl),(79,nShr)]
theorem sRef3_ok:SpecsOk Tryz.prog sRef3:=⟨nNorm_ok,nGreat_ok,nOf_ok,nLen_ok,nLow_ok,nCmp_ok,nSame_ok,nAdd_ok,nSub_ok,nMul_ok,nShl_ok,nShr_ok,trivial⟩
theorem eqI_true{a b:Int}:eqI a b=true↔a=b:=by simp [eqI]
theorem eqI_false{a b:Int}:eqI a b=false↔a≠b:=by simp [eqI]
theorem neI_true{a b:Int}:neI a b=true↔a≠b:=by simp [neI]
theorem neI_false{a b:Int}:neI a b=false↔a=b:=by simp [neI]
theorem ltI_true{a b:Int}:ltI a b=true↔a<b:=by simp [ltI]
theorem ltI_false{a b:Int}:ltI a b=false↔¬ a<b:=by simp [ltI]
theorem leI_true{a b:Int}:leI a b=true↔a≤b:=by simp [leI]
theorem leI_false{a b:Int}:leI a b=false↔¬ a≤b:=by simp [leI]
theorem WfW.val0{xs:List Int}(h:WfW xs):0≤val xs:=val_nonneg h.1
theorem Dx.Wf.m0{d:Dx}(h:d.Wf):0≤d.m:=val_nonneg h.1
theorem len_zero{n:Int}(h:0≤n):eqI ((ws n).length:Nat) 0=decide (n=0):=by
  rw [Bool.eq_iff_iff,eqI_true,decide_eq_true_eq,←ws_eq_nil h,←List.length_eq_zero_iff];omega
theorem len_pos{n:Int}(h:0≤n):ltI 0 ((ws n).length:Nat)=decide (n≠0):=by
  rw [Bool.eq_iff_iff,ltI_true,decide_eq_true_eq,ne_eq,←ws_eq_nil h,←List.length_eq_zero_iff];omega
def rForm:Spec:=specK [.b,.w,.i .i64] fun (neg:Bool) (xs:List Int) (e:Int)=>(some (-4611686018427387904≤e∧e≤4611686018427387904),dT (mkD neg (val xs) e))
theorem rForm_vc(neg:Bool)(xs:List Int)(e:Int)(Q:Tv→Prop):execF ⟨tys,sLimbs⟩ (fun _=>none) 0 Tryz.f86 [.one (.bool neg),.one (.words false xs),.one (.int .i64 e)] Q=(br (eqI (↑(List.length (ws (val xs))):Int) 0) (Q (Tv.sv (Sv.agg [At.bool false,At.words true [],At.int IntKind.i64 0]))) (((0:Int)≤(↑(tz (val (ws (val xs)))):Int)∧(↑(tz (val (ws (val xs)))):Int)≤9007199254740992)∧inR (e+(↑(tz (val (ws (val xs)))):Int))∧Q (Tv.sv (Sv.agg [At.bool neg,At.words true (ws (val (ws (val xs))/2^Int.toNat (↑(tz (val (ws (val xs)))):Int))),At.int IntKind.i64 (e+(↑(tz (val (ws (val xs)))):Int))])))):=by kernel_rfl
theorem rForm_ok:SpecOk Tryz.prog 86 rForm :=
  specK_ok (envOk tys_ok sLimbs_ok) mixed Tryz.func86 rfl (by decide) (by decide) fun neg _ xs hxs (e:Int) _ hp=>⟨fun _=>none,0,by
    have h0:-4611686018427387904≤e:=hp.1
    have h1:e≤4611686018427387904:=hp.2
    have hv:=WfW.val0 hxs
    have ht:=tz_small hxs.1 hxs.2
    refine (rForm_vc neg xs e _).mpr (br_intro (fun h=>?_) (fun h=>?_))
    · rw [len_zero hv,decide_eq_true_eq] at h
      show _=dT (mkD neg (val xs) e)
      rw [h,mkD_zero]
      rfl
    · rw [len_zero hv,decide_eq_false_iff_not] at h
      rw [val_ws hv]
      refine ⟨⟨by omega,by omega⟩,⟨by omega,by omega⟩,?_⟩
      show _=dT (mkD neg (val xs) e)
      rw [mkD,if_neg h,Int.toNat_natCast]
      rfl⟩
def rZero:Spec:=specK [.d] fun (d:Dx)=>(none,bT d.zeroB)
theorem rZero_vc(d:Dx)(Q:Tv→Prop):execF ⟨tys,sLimbs⟩ (fun _=>none) 0 Tryz.f60 [.agg (dyL false d)] Q=(Q (Tv.sv (Sv.one (At.bool (eqI (↑(List.length (ws (val d.xs))):Int) 0))))):=by kernel_rfl
theorem rZero_ok:SpecOk Tryz.prog 60 rZero :=
  specK_ok (envOk tys_ok sLimbs_ok) mixed Tryz.func60 rfl (by decide) (by decide) fun (d:Dx) hd _=>⟨fun _=>none,0,by
    refine (rZero_vc d _).mpr ?_
    show _=bT d.zeroB
    rw [len_zero (WfW.val0 hd)]
    rfl⟩
def rFits:Spec:=specK [.d] fun (d:Dx)=>(none,bT d.fitsB)
theorem rFits_vc(d:Dx)(Q:Tv→Prop):execF ⟨tys,sLimbs⟩ (fun _=>none) 0 Tryz.f80 [.agg (dyL false d)] Q=(br (leI (↑(List.length (ws (val d.xs))):Int) 1024) (br (leI (-32768) d.e) (Q (Tv.sv (Sv.one (At.bool (leI d.e 32768))))) (Q (Tv.sv (Sv.one (At.bool false))))) (Q (Tv.sv (Sv.one (At.bool false))))):=by kernel_rfl
theorem rFits_ok:SpecOk Tryz.prog 80 rFits :=
  specK_ok (envOk tys_ok sLimbs_ok) mixed Tryz.func80 rfl (by decide) (by decide) fun (d:Dx) hd _=>⟨fun _=>none,0,by
    refine (rFits_vc d _).mpr (br_intro (fun h=>br_intro (fun h'=>?_) fun h'=>?_) fun h=>?_)
    · show _=bT d.fitsB
      have e1:greatB d.m=false:=by rw [leI_true] at h;unfold greatB Dx.m;simp;omega
      rw [leI_true] at h'
      unfold Dx.fitsB;rw [e1];simp only [leI,h',decide_true,Bool.not_false,Bool.true_and]
    · show _=bT d.fitsB
      rw [leI_false] at h'
      unfold Dx.fitsB;simp only [h',decide_false,Bool.and_false,Bool.false_and]
    · show _=bT d.fitsB
      have e1:greatB d.m=true:=by rw [leI_false] at h;unfold greatB Dx.m;simp;omega
      unfold Dx.fitsB;rw [e1];rfl⟩
theorem blen_wf{xs:List Int}(h:WfW xs):blen (val xs)≤1125899906842560:=blen_small h.1 h.2
theorem Dx.Wf.blen{d:Dx}(h:d.Wf):blen d.m≤1125899906842560:=blen_small h.1 h.2
def rTop:Spec:=specK [.d] fun (d:Dx)=>(some (-2305843009213693952≤d.e∧d.e≤2305843009213693952),iT (d.e+blen d.m-1))
theorem rTop_vc(d:Dx)(Q:Tv→Prop):execF ⟨tys,sLimbs⟩ (fun _=>none) 0 Tryz.f81 [.agg (dyL false d)] Q=(inR (d.e+(↑(blen (val d.xs)):Int))∧inR (d.e+(↑(blen (val d.xs)):Int)-1)∧true=true∧Q (Tv.sv (Sv.one (At.int IntKind.i64 (d.e+(↑(blen (val d.xs)):Int)-1))))):=by kernel_rfl
theorem rTop_ok:SpecOk Tryz.prog 81 rTop :=
  specK_ok (envOk tys_ok sLimbs_ok) mixed Tryz.func81 rfl (by decide) (by decide) fun (d:Dx) hd hp=>⟨fun _=>none,0,by
    have h0:-2305843009213693952≤Dx.e d:=hp.1
    have h1:Dx.e d≤2305843009213693952:=hp.2
    have hb:=Dx.Wf.blen hd
    unfold Dx.m at hb
    refine (rTop_vc d _).mpr ⟨⟨by omega,by omega⟩,⟨by omega,by omega⟩,rfl,rfl⟩⟩
def rAmounts:Spec:=specK [.d,.d] fun (d:Dx) (d':Dx)=>(some (d.Sm 274877906944∧d'.Sm 274877906944),
  .tup [.one (.words true (ws (d.m*2^(d.e-min d.e d'.e).toNat))),.one (.words true (ws (d'.m*2^(d'.e-min d.e d'.e).toNat))),.one (.int .i64 (min d.e d'.e))])
theorem minI_eq(a b:Int):minI a b=min a b:=by unfold minI;omega
theorem maxI_eq(a b:Int):maxI a b=max a b:=by unfold maxI;omega
theorem ws_blen{n:Int}{k:Nat}(h0:0≤n)(h:blen n≤64*k):(ws n).length≤k:=by have:=ws_len_blen h0;omega
theorem rAmounts_vc(d d':Dx)(Q:Tv→Prop):execF ⟨tys,sLimbs⟩ (fun _=>none) 0 Tryz.f82 [.agg (dyL false d),.agg (dyL false d')] Q=(inR (d.e-minI d.e d'.e)∧((0:Int)≤d.e-minI d.e d'.e∧d.e-minI d.e d'.e≤1099511627776∧List.length (ws (val d.xs))≤8796093022208)∧inR (d'.e-minI d.e d'.e)∧((0:Int)≤d'.e-minI d.e d'.e∧d'.e-minI d.e d'.e≤1099511627776∧List.length (ws (val d'.xs))≤8796093022208)∧true=true∧Q (Tv.tup [Sv.one (At.words true (ws (val d.xs*2^Int.toNat (d.e-minI d.e d'.e)))),Sv.one (At.words true (ws (val d'.xs*2^Int.toNat (d'.e-minI d.e d'.e)))),Sv.one (At.int IntKind.i64 (minI d.e d'.e))])):=by kernel_rfl
theorem rAmounts_ok:SpecOk Tryz.prog 82 rAmounts :=
  specK_ok (envOk tys_ok sLimbs_ok) mixed Tryz.func82 rfl (by decide) (by decide) fun (d:Dx) hd (d':Dx) hd' hp=>⟨fun _=>none,0,by
    obtain ⟨⟨s1,s2,s3⟩,s4,s5,s6⟩:Dx.Sm 274877906944 d∧Dx.Sm 274877906944 d':=hp
    have l1:=ws_blen (k:=8796093022208) (Dx.Wf.m0 hd) (by omega)
    have l2:=ws_blen (k:=8796093022208) (Dx.Wf.m0 hd') (by omega)
    refine (rAmounts_vc d d' _).mpr ?_
    rw [minI_eq]
    exact ⟨⟨by omega,by omega⟩,⟨by omega,by omega,l1⟩,⟨by omega,by omega⟩,⟨by omega,by omega,l2⟩,rfl,rfl⟩⟩
def sRaw1:List (FuncId×Spec):=[(86,rForm),(60,rZero),(80,rFits),(81,rTop),(82,rAmounts)] ++ sLimbs
theorem sRaw1_ok:SpecsOk Tryz.prog sRaw1:=⟨rForm_ok,rZero_ok,rFits_ok,rTop_ok,rAmounts_ok,sLimbs_ok⟩
def rOne:Spec:=specK [.d] fun (d:Dx)=>(some (-4611686018427387904≤d.e∧d.e≤4611686018427387904),dT (oneD d))
theorem rOne_vc(d:Dx)(Q:Tv→Prop):execF ⟨tys,sRaw1⟩ (fun _=>none) 0 Tryz.f83 [.agg (dyL false d)] Q=(((-4611686018427387904:Int)≤d.e∧d.e≤4611686018427387904)∧Q (Tv.sv (Sv.agg [At.bool (mkD d.neg (val d.xs) d.e).neg,At.words true (mkD d.neg (val d.xs) d.e).xs,At.int IntKind.i64 (mkD d.neg (val d.xs) d.e).e]))):=by kernel_rfl
theorem rOne_ok:SpecOk Tryz.prog 83 rOne :=
  specK_ok (envOk tys_ok sRaw1_ok) mixed Tryz.func83 rfl (by decide) (by decide) fun (d:Dx) hd hp=>⟨fun _=>none,0,(rOne_vc d _).mpr ⟨hp,rfl⟩⟩
def rNeg:Spec:=specK [.d] fun (d:Dx)=>(some (-4611686018427387904≤d.e∧d.e≤4611686018427387904),dT (negD d))
theorem rNeg_vc(d:Dx)(Q:Tv→Prop):execF ⟨tys,sRaw1⟩ (fun _=>none) 0 Tryz.f89 [.agg (dyL false d)] Q=(((-4611686018427387904:Int)≤d.e∧d.e≤4611686018427387904)∧Q (Tv.sv (Sv.agg [At.bool (mkD (!d.neg) (val d.xs) d.e).neg,At.words true (mkD (!d.neg) (val d.xs) d.e).xs,At.int IntKind.i64 (mkD (!d.neg) (val d.xs) d.e).e]))):=by kernel_rfl
theorem rNeg_ok:SpecOk Tryz.prog 89 rNeg :=
  specK_ok (envOk tys_ok sRaw1_ok) mixed Tryz.func89 rfl (by decide) (by decide) fun (d:Dx) hd hp=>⟨fun _=>none,0,(rNeg_vc d _).mpr ⟨hp,rfl⟩⟩
def rSign:Spec:=specK [.d] fun (d:Dx)=>(none,iT d.sgn)
theorem rSign_vc(d:Dx)(Q:Tv→Prop):execF ⟨tys,sRaw1⟩ (fun _=>none) 0 Tryz.f35 [.agg (dyL false d)] Q=(br (Dx.zeroB d) (Q (Tv.sv (Sv.one (At.int IntKind.i64 0)))) (br d.neg (Q (Tv.sv (Sv.one (At.int IntKind.i64 (-1))))) (Q (Tv.sv (Sv.one (At.int IntKind.i64 1)))))):=by kernel_rfl
def rMul:Spec:=specK [.d,.d] fun (d:Dx) (d':Dx)=>(some (d.Sm 274877906944∧d'.Sm 274877906944),dT (timesD d d'))
theorem rSign_ok:SpecOk Tryz.prog 35 rSign :=
  specK_ok (envOk tys_ok sRaw1_ok) mixed Tryz.func35 rfl (by decide) (by decide) fun (d:Dx) hd _=>⟨fun _=>none,0,by
    refine (rSign_vc d _).mpr (br_intro (fun h=>?_) (fun h=>br_intro (fun h'=>?_) fun h'=>?_))
    · show _=iT d.sgn
      rw [Dx.sgn,if_pos (by simpa [Dx.zeroB] using h)]
    · show _=iT d.sgn
      rw [Dx.sgn,if_neg (by simpa [Dx.zeroB] using h),if_pos h']
    · show _=iT d.sgn
      rw [Dx.sgn,if_neg (by simpa [Dx.zeroB] using h),if_neg (by simp [h'])]⟩
theorem rMul_vc(d d':Dx)(Q:Tv→Prop):execF ⟨tys,sRaw1⟩ (fun _=>none) 0 Tryz.f58 [.agg (dyL false d),.agg (dyL false d')] Q=(List.length (ws (val d.xs))+List.length (ws (val d'.xs))≤17592186044415∧inR (d.e+d'.e)∧((-4611686018427387904:Int)≤d.e+d'.e∧d.e+d'.e≤4611686018427387904)∧true=true∧Q (Tv.sv (Sv.agg [At.bool (mkD (!d.neg == d'.neg) (val (ws (val d.xs*val d'.xs))) (d.e+d'.e)).neg,At.words true (mkD (!d.neg == d'.neg) (val (ws (val d.xs*val d'.xs))) (d.e+d'.e)).xs,At.int IntKind.i64 (mkD (!d.neg == d'.neg) (val (ws (val d.xs*val d'.xs))) (d.e+d'.e)).e]))):=by kernel_rfl
theorem rMul_ok:SpecOk Tryz.prog 58 rMul :=
  specK_ok (envOk tys_ok sRaw1_ok) mixed Tryz.func58 rfl (by decide) (by decide) fun (d:Dx) hd (d':Dx) hd' hp=>⟨fun _=>none,0,by
    obtain ⟨⟨s1,s2,s3⟩,s4,s5,s6⟩:Dx.Sm 274877906944 d∧Dx.Sm 274877906944 d':=hp
    have l1:=ws_blen (k:=8796093022207) (Dx.Wf.m0 hd) (by omega)
    have l2:=ws_blen (k:=8796093022207) (Dx.Wf.m0 hd') (by omega)
    unfold Dx.m at l1 l2
    have hv:0≤val d.xs*val d'.xs:=Int.mul_nonneg (WfW.val0 hd) (WfW.val0 hd')
    refine (rMul_vc d d' _).mpr ?_
    rw [val_ws hv]
    exact ⟨by omega,⟨by omega,by omega⟩,⟨by omega,by omega⟩,rfl,rfl⟩⟩
def rSticky:Spec:=specK [.b,.w,.b,.i .i64] fun (neg:Bool) (xs:List Int) (more:Bool) (e:Int)=>(some ((ws (val xs)).length≤8796093022207∧-2305843009213693952≤e∧e≤2305843009213693952),dT (mkD neg (stickyM (val xs) more) (e-1)))
theorem rSticky_vc(neg more:Bool)(xs:List Int)(e:Int)(Q:Tv→Prop):execF ⟨tys,sRaw1⟩ (fun _=>none) 0 Tryz.f94 [.one (.bool neg),.one (.words false xs),.one (.bool more),.one (.int .i64 e)] Q=(((0:Int)≤1∧(1:Int)≤1099511627776∧List.length (ws (val xs))≤8796093022208)∧br more (Word 1∧(List.length (ws (val xs*2^Int.toNat 1))≤17592186044414∧List.length (ws 1)≤17592186044414)∧inR (e-1)∧((-4611686018427387904:Int)≤e-1∧e-1≤4611686018427387904)∧Q (Tv.sv (Sv.agg [At.bool (mkD neg (val (ws (val (ws (val xs*2^Int.toNat 1))+val (ws 1)))) (e-1)).neg,At.words true (mkD neg (val (ws (val (ws (val xs*2^Int.toNat 1))+val (ws 1)))) (e-1)).xs,At.int IntKind.i64 (mkD neg (val (ws (val (ws (val xs*2^Int.toNat 1))+val (ws 1)))) (e-1)).e]))) (inR (e-1)∧((-4611686018427387904:Int)≤e-1∧e-1≤4611686018427387904)∧Q (Tv.sv (Sv.agg [At.bool (mkD neg (val (ws (val xs*2^Int.toNat 1))) (e-1)).neg,At.words true (mkD neg (val (ws (val xs*2^Int.toNat 1))) (e-1)).xs,At.int IntKind.i64 (mkD neg (val (ws (val xs*2^Int.toNat 1))) (e-1)).e])))):=by kernel_rfl
theorem word_one:Word 1:=⟨by omega,by omega⟩
theorem ws_one:ws 1 = [1]:=by rw [ws_pos (by omega),ws_nonpos (by omega)];rfl
theorem val_ws_one:val (ws 1)=1:=val_ws (by omega)
theorem ws_len_double{n:Int}(h:0≤n):(ws (n*2)).length≤(ws n).length+1:=by
  have:=lt_wpow_ws h
  refine ws_length_le ?_
  rw [wpow_succ]
  have:=wpow_pos (ws n).length
  omega
theorem rSticky_ok:SpecOk Tryz.prog 94 rSticky :=
  specK_ok (envOk tys_ok sRaw1_ok) mixed Tryz.func94 rfl (by decide) (by decide) fun neg _ xs hxs more _ (e:Int) _ hp=>⟨fun _=>none,0,by
    obtain ⟨h1,h2,h3⟩:(ws (val xs)).length≤8796093022207∧-2305843009213693952≤e∧e≤2305843009213693952:=hp
    have v0:=WfW.val0 hxs
    have l2:=ws_len_double v0
    refine (rSticky_vc neg more xs e _).mpr ?_
    rw [show (2:Int)^Int.toNat 1=2 from rfl,val_ws (n:=val xs*2) (by omega),val_ws_one,val_ws (n:=val xs*2+1) (by omega)]
    refine ⟨⟨by omega,by omega,by omega⟩,br_intro (fun h=>⟨word_one,⟨by omega,by simp [ws_one]⟩,⟨by omega,by omega⟩,⟨by omega,by omega⟩,?_⟩) (fun h=>⟨⟨by omega,by omega⟩,⟨by omega,by omega⟩,?_⟩)⟩
    · show _=dT (mkD neg (stickyM (val xs) more) (e-1))
      rw [h];rfl
    · show _=dT (mkD neg (stickyM (val xs) more) (e-1))
      rw [h,show stickyM (val xs) false=val xs*2 from by simp [stickyM]];rfl⟩
def sRaw2:List (FuncId×Spec):=[(83,rOne),(89,rNeg),(35,rSign),(58,rMul),(94,rSticky)] ++ sRaw1
theorem sRaw2_ok:SpecsOk Tryz.prog sRaw2:=⟨rOne_ok,rNeg_ok,rSign_ok,rMul_ok,rSticky_ok,sRaw1_ok⟩
def rAdd:Spec:=specK [.d,.d] fun (a:Dx) (b:Dx)=>(some (a.Sm 68719476736∧b.Sm 68719476736),dT (plusD a b))
theorem rAdd_vc(a b:Dx)(Q:Tv→Prop):execF ⟨tys,sRaw2⟩ (fun _=>none) 0 Tryz.f54 [.agg (dyL false a),.agg (dyL false b)] Q=(((-4611686018427387904:Int)≤a.e∧a.e≤4611686018427387904)∧((-4611686018427387904:Int)≤b.e∧b.e≤4611686018427387904)∧true=true∧br (Dx.zeroB (oneD a)) (Q (Tv.sv (Sv.agg (dyL true (oneD b))))) (br (Dx.zeroB (oneD b)) (Q (Tv.sv (Sv.agg (dyL true (oneD a))))) ((Dx.Sm 274877906944 (oneD a)∧Dx.Sm 274877906944 (oneD b))∧br ((oneD a).neg == (oneD b).neg) ((List.length (ws (Dx.m (oneD a)*2^Int.toNat ((oneD a).e-min (oneD a).e (oneD b).e)))≤17592186044414∧List.length (ws (Dx.m (oneD b)*2^Int.toNat ((oneD b).e-min (oneD a).e (oneD b).e)))≤17592186044414)∧((-4611686018427387904:Int)≤min (oneD a).e (oneD b).e∧min (oneD a).e (oneD b).e≤4611686018427387904)∧true=true∧Q (Tv.sv (Sv.agg (dyL true (mkD (oneD a).neg (val (ws (val (ws (Dx.m (oneD a)*2^Int.toNat ((oneD a).e-min (oneD a).e (oneD b).e)))+val (ws (Dx.m (oneD b)*2^Int.toNat ((oneD b).e-min (oneD a).e (oneD b).e)))))) (min (oneD a).e (oneD b).e)))))) (br (leI 0 (cmpI (val (ws (Dx.m (oneD a)*2^Int.toNat ((oneD a).e-min (oneD a).e (oneD b).e)))) (val (ws (Dx.m (oneD b)*2^Int.toNat ((oneD b).e-min (oneD a).e (oneD b).e)))))) (val (ws (Dx.m (oneD b)*2^Int.toNat ((oneD b).e-min (oneD a).e (oneD b).e)))≤val (ws (Dx.m (oneD a)*2^Int.toNat ((oneD a).e-min (oneD a).e (oneD b).e)))∧((-4611686018427387904:Int)≤min (oneD a).e (oneD b).e∧min (oneD a).e (oneD b).e≤4611686018427387904)∧true=true∧Q (Tv.sv (Sv.agg (dyL true (mkD (oneD a).neg (val (ws (val (ws (Dx.m (oneD a)*2^Int.toNat ((oneD a).e-min (oneD a).e (oneD b).e)))-val (ws (Dx.m (oneD b)*2^Int.toNat ((oneD b).e-min (oneD a).e (oneD b).e)))))) (min (oneD a).e (oneD b).e)))))) (val (ws (Dx.m (oneD a)*2^Int.toNat ((oneD a).e-min (oneD a).e (oneD b).e)))≤val (ws (Dx.m (oneD b)*2^Int.toNat ((oneD b).e-min (oneD a).e (oneD b).e)))∧((-4611686018427387904:Int)≤min (oneD a).e (oneD b).e∧min (oneD a).e (oneD b).e≤4611686018427387904)∧true=true∧Q (Tv.sv (Sv.agg (dyL true (mkD (oneD b).neg (val (ws (val (ws (Dx.m (oneD b)*2^Int.toNat ((oneD b).e-min (oneD a).e (oneD b).e)))-val (ws (Dx.m (oneD a)*2^Int.toNat ((oneD a).e-min (oneD a).e (oneD b).e)))))) (min (oneD a).e (oneD b).e)))))))))):=by kernel_rfl
theorem zeroB_true{d:Dx}:d.zeroB=true↔d.m=0:=by simp [Dx.zeroB]
theorem zeroB_false{d:Dx}:d.zeroB=false↔d.m≠0:=by simp [Dx.zeroB]
theorem one_m0{d:Dx}(h:0≤d.m):0≤(oneD d).m:=by
  unfold oneD;rw [mkD_m h];exact Int.ediv_nonneg h (by have:=two_pow_pos (tz d.m);omega)
theorem one_sm{d:Dx}{N:Nat}(hd:0≤d.m)(h:d.Sm N):(oneD d).Sm (N+N):=mkD_sm hd h.1 h.2.1 h.2.2
theorem cmpI_ge{a b:Int}:leI 0 (cmpI a b)=true↔b≤a:=by
  rw [leI_true];unfold cmpI;split
  · omega
  · split<;>omega
theorem rAdd_ok:SpecOk Tryz.prog 54 rAdd :=
  specK_ok (envOk tys_ok sRaw2_ok) mixed Tryz.func54 rfl (by decide) (by decide) fun (a:Dx) ha (b:Dx) hb hp=>⟨fun _=>none,0,by
    obtain ⟨s1,s2⟩:Dx.Sm 68719476736 a∧Dx.Sm 68719476736 b:=hp
    have m1:=one_m0 (Dx.Wf.m0 ha)
    have m2:=one_m0 (Dx.Wf.m0 hb)
    have z1:=one_sm (Dx.Wf.m0 ha) s1
    have z2:=one_sm (Dx.Wf.m0 hb) s2
    have b1:=s1.2
    have b2:=s2.2
    refine (rAdd_vc a b _).mpr ⟨⟨by omega,by omega⟩,⟨by omega,by omega⟩,rfl,br_intro (fun h=>?_) (fun h=>br_intro (fun h'=>?_) fun h'=>?_)⟩
    · show _=dT (plusX (oneD a) (oneD b))
      rw [plusX,if_pos (zeroB_true.1 h)]
    · show _=dT (plusX (oneD a) (oneD b))
      rw [plusX,if_neg (zeroB_false.1 h),if_pos (zeroB_true.1 h')]
    · rw [zeroB_false] at h h'
      obtain ⟨X,Y,mn,hX,hY,hmn,pX,pY,lX,lY,mn0,mn1,hsame,hge,hlt⟩:=plus_parts m1 m2 h h' z1 z2
      rw [hX,hY,hmn,val_ws (n:=X) (by omega),val_ws (n:=Y) (by omega)]
      refine ⟨⟨z1.mono (by omega),z2.mono (by omega)⟩,br_intro (fun e=>?_) fun e=>br_intro (fun e'=>?_) fun e'=>?_⟩
      · rw [val_ws (by omega)]
        refine ⟨⟨lX,lY⟩,⟨mn0,mn1⟩,rfl,?_⟩
        show _=dT (plusX (oneD a) (oneD b))
        rw [hsame (by simpa using e)]
      · rw [cmpI_ge] at e'
        rw [val_ws (n:=X-Y) (by omega)]
        refine ⟨e',⟨mn0,mn1⟩,rfl,?_⟩
        show _=dT (plusX (oneD a) (oneD b))
        rw [hge (by simpa using e) e']
      · have e':¬ Y≤X:=fun h=>by rw [cmpI_ge.2 h] at e';simp at e'
        rw [val_ws (n:=Y-X) (by omega)]
        refine ⟨by omega,⟨mn0,mn1⟩,rfl,?_⟩
        show _=dT (plusX (oneD a) (oneD b))
        rw [hlt (by simpa using e) (by omega)]⟩
def rCut:Spec:=specK [.d,.i .i64,.b] fun (d:Dx) (p:Int) (up:Bool)=>(some (d.Sm 34359738368∧0≤p∧p≤1099511627776),dT (cutD d p up))
theorem rCut_vc(d:Dx)(p:Int)(up:Bool)(Q:Tv→Prop):execF ⟨tys,sRaw2⟩ (fun _=>none) 0 Tryz.f85 [.agg (dyL false d),.one (.int .i64 p),.one (.bool up)] Q=(((-4611686018427387904:Int)≤d.e∧d.e≤4611686018427387904)∧inR ((↑(blen (val (oneD d).xs)):Int)-p)∧br (leI ((↑(blen (val (oneD d).xs)):Int)-p) 0) (Q (Tv.sv (Sv.agg (dyL true (oneD d))))) (((0:Int)≤(↑(blen (val (oneD d).xs)):Int)-p∧(↑(blen (val (oneD d).xs)):Int)-p≤9007199254740992)∧br (!up == (oneD d).neg) (Word 1∧(List.length (ws (val (oneD d).xs/2^Int.toNat ((↑(blen (val (oneD d).xs)):Int)-p)))≤17592186044414∧List.length (ws 1)≤17592186044414)∧inR ((oneD d).e+((↑(blen (val (oneD d).xs)):Int)-p))∧((-4611686018427387904:Int)≤(oneD d).e+((↑(blen (val (oneD d).xs)):Int)-p)∧(oneD d).e+((↑(blen (val (oneD d).xs)):Int)-p)≤4611686018427387904)∧Q (Tv.sv (Sv.agg (dyL true (mkD (oneD d).neg (val (ws (val (ws (val (oneD d).xs/2^Int.toNat ((↑(blen (val (oneD d).xs)):Int)-p)))+val (ws 1)))) ((oneD d).e+((↑(blen (val (oneD d).xs)):Int)-p))))))) (inR ((oneD d).e+((↑(blen (val (oneD d).xs)):Int)-p))∧((-4611686018427387904:Int)≤(oneD d).e+((↑(blen (val (oneD d).xs)):Int)-p)∧(oneD d).e+((↑(blen (val (oneD d).xs)):Int)-p)≤4611686018427387904)∧Q (Tv.sv (Sv.agg (dyL true (mkD (oneD d).neg (val (ws (val (oneD d).xs/2^Int.toNat ((↑(blen (val (oneD d).xs)):Int)-p)))) ((oneD d).e+((↑(blen (val (oneD d).xs)):Int)-p))))))))):=by kernel_rfl
theorem rCut_ok:SpecOk Tryz.prog 85 rCut :=
  specK_ok (envOk tys_ok sRaw2_ok) mixed Tryz.func85 rfl (by decide) (by decide) fun (d:Dx) hd (p:Int) _ (up:Bool) _ hp=>⟨fun _=>none,0,by
    obtain ⟨s1,p0,p1⟩:Dx.Sm 34359738368 d∧0≤p∧p≤1099511627776:=hp
    have m1:=one_m0 (Dx.Wf.m0 hd)
    obtain ⟨z1,z2,z3⟩:=one_sm (Dx.Wf.m0 hd) s1
    have b1:=s1.2
    refine (rCut_vc d p up _).mpr ?_
    show _∧_
    unfold Dx.m at m1 z1
    generalize hn:((blen (val (oneD d).xs):Int)-p)=n
    have hq:0≤val (oneD d).xs/2^n.toNat:=Int.ediv_nonneg m1 (by have:=two_pow_pos n.toNat;omega)
    have hql:(ws (val (oneD d).xs/2^n.toNat)).length≤1073741825:=ws_blen hq (by
      have:=blen_mono (m:=val (oneD d).xs/2^n.toNat) (n:=val (oneD d).xs) (Int.ediv_le_self _ m1);omega)
    have goal:cutD d p up=if n≤0 then oneD d else mkD (oneD d).neg (val (oneD d).xs/2^n.toNat+if up == (oneD d).neg then 0 else 1) ((oneD d).e+n):=by
      rw [←hn];rfl
    refine ⟨⟨by omega,by omega⟩,⟨by omega,by omega⟩,br_intro (fun h=>?_) fun h=>⟨⟨by rw [leI_false] at h;omega,by omega⟩,br_intro (fun h'=>?_) fun h'=>?_⟩⟩
    · show _=dT (cutD d p up)
      rw [goal,if_pos (leI_true.1 h)]
    · rw [val_ws hq,val_ws_one,val_ws (by omega)]
      refine ⟨word_one,⟨by omega,by simp [ws_one]⟩,⟨by omega,by omega⟩,⟨by omega,by omega⟩,?_⟩
      show _=dT (cutD d p up)
      rw [goal,if_neg (leI_false.1 h),if_neg (by cases up<;>cases hh:(oneD d).neg<;>simp_all)]
    · rw [val_ws hq]
      refine ⟨⟨by omega,by omega⟩,⟨by omega,by omega⟩,?_⟩
      show _=dT (cutD d p up)
      rw [goal,if_neg (leI_false.1 h),if_pos (by cases up<;>cases hh:(oneD d).neg<;>simp_all),Int.add_zero]⟩
def rCmp:Spec:=specK [.d,.d] fun (a:Dx) (b:Dx)=>(some (a.Sm 68719476736∧b.Sm 68719476736),iT (cmpD a b))
theorem rCmp_vc(a b:Dx)(Q:Tv→Prop):execF ⟨tys,sRaw2⟩ (fun _=>none) 0 Tryz.f52 [.agg (dyL false a),.agg (dyL false b)] Q=(true=true∧br (ltI (Dx.sgn a) (Dx.sgn b)) (Q (Tv.sv (Sv.one (At.int IntKind.i64 (-1))))) (br (ltI (Dx.sgn b) (Dx.sgn a)) (Q (Tv.sv (Sv.one (At.int IntKind.i64 1)))) (br (eqI (Dx.sgn a) 0) (Q (Tv.sv (Sv.one (At.int IntKind.i64 0)))) (((-2305843009213693952:Int)≤a.e∧a.e≤2305843009213693952)∧((-2305843009213693952:Int)≤b.e∧b.e≤2305843009213693952)∧true=true∧br (neI (a.e+(↑(blen (Dx.m a)):Int)-1) (b.e+(↑(blen (Dx.m b)):Int)-1)) (br (ltI (a.e+(↑(blen (Dx.m a)):Int)-1) (b.e+(↑(blen (Dx.m b)):Int)-1)) (inR ((0:Int)-Dx.sgn a)∧Q (Tv.sv (Sv.one (At.int IntKind.i64 ((0:Int)-Dx.sgn a))))) (Q (Tv.sv (Sv.one (At.int IntKind.i64 (Dx.sgn a)))))) (((-4611686018427387904:Int)≤a.e∧a.e≤4611686018427387904)∧((-4611686018427387904:Int)≤b.e∧b.e≤4611686018427387904)∧(Dx.Sm 274877906944 (oneD a)∧Dx.Sm 274877906944 (oneD b))∧true=true∧inR (Dx.sgn a*cmpI (val (ws (Dx.m (oneD a)*2^Int.toNat ((oneD a).e-min (oneD a).e (oneD b).e)))) (val (ws (Dx.m (oneD b)*2^Int.toNat ((oneD b).e-min (oneD a).e (oneD b).e)))))∧Q (Tv.sv (Sv.one (At.int IntKind.i64 (Dx.sgn a*cmpI (val (ws (Dx.m (oneD a)*2^Int.toNat ((oneD a).e-min (oneD a).e (oneD b).e)))) (val (ws (Dx.m (oneD b)*2^Int.toNat ((oneD b).e-min (oneD a).e (oneD b).e))))))))))))):=by kernel_rfl
theorem rCmp_ok:SpecOk Tryz.prog 52 rCmp :=
  specK_ok (envOk tys_ok sRaw2_ok) mixed Tryz.func52 rfl (by decide) (by decide) fun (a:Dx) ha (b:Dx) hb hp=>⟨fun _=>none,0,by
    obtain ⟨s1,s2⟩:Dx.Sm 68719476736 a∧Dx.Sm 68719476736 b:=hp
    have m1:=Dx.Wf.m0 ha
    have m2:=Dx.Wf.m0 hb
    have z1:=one_sm m1 s1
    have z2:=one_sm m2 s2
    have b1:=s1.2
    have b2:=s2.2
    have c1:=sgn_cases (d:=a)
    refine (rCmp_vc a b _).mpr ⟨rfl,br_intro (fun h=>?_) fun h=>br_intro (fun h'=>?_) fun h'=>br_intro (fun h0=>?_) fun h0=>?_⟩
    · show _=iT (cmpD a b)
      rw [cmpD_lt m1 m2 (ltI_true.1 h)]
    · show _=iT (cmpD a b)
      rw [cmpD_gt m1 m2 (ltI_true.1 h')]
    · rw [ltI_false] at h h';rw [eqI_true] at h0
      show _=iT (cmpD a b)
      rw [cmpD_zero m1 m2 h0 (by omega)]
    · rw [ltI_false] at h h';rw [eqI_false] at h0
      have hs:a.sgn=b.sgn:=by omega
      obtain ⟨t1,t2⟩:=cmpD_top m1 m2 hs h0
      refine ⟨⟨by omega,by omega⟩,⟨by omega,by omega⟩,rfl,br_intro (fun e=>br_intro (fun e'=>?_) fun e'=>?_) fun e=>?_⟩
      · refine ⟨⟨by omega,by omega⟩,?_⟩
        show _=iT (cmpD a b)
        rw [t1 (ltI_true.1 e'),Int.zero_sub]
      · rw [ltI_false] at e';rw [neI_true] at e
        show _=iT (cmpD a b)
        rw [t2 (by omega)]
      · have hm1:=Int.mul_nonneg (one_m0 m1) (show (0:Int)≤2^((oneD a).e-min (oneD a).e (oneD b).e).toNat from by have:=two_pow_pos ((oneD a).e-min (oneD a).e (oneD b).e).toNat;omega)
        have hm2:=Int.mul_nonneg (one_m0 m2) (show (0:Int)≤2^((oneD b).e-min (oneD a).e (oneD b).e).toNat from by have:=two_pow_pos ((oneD b).e-min (oneD a).e (oneD b).e).toNat;omega)
        rw [val_ws hm1,val_ws hm2]
        refine ⟨⟨by omega,by omega⟩,⟨by omega,by omega⟩,⟨z1.mono (by omega),z2.mono (by omega)⟩,rfl,?_,?_⟩
        · generalize (oneD a).m*2^((oneD a).e-min (oneD a).e (oneD b).e).toNat=X
          generalize (oneD b).m*2^((oneD b).e-min (oneD a).e (oneD b).e).toNat=Y
          have:cmpI X Y = -1∨cmpI X Y=0∨cmpI X Y=1:=by unfold cmpI;split<;>(try split)<;>omega
          rcases c1 with c1 | c1 | c1<;>rcases this with c | c | c<;>rw [c1,c]<;>exact ⟨by omega,by omega⟩
        · show _=iT (cmpD a b)
          rw [cmpD_one m1 m2 hs h0]⟩
def sRaw3:List (FuncId×Spec):=[(54,rAdd),(85,rCut),(52,rCmp)] ++ sRaw2
theorem sRaw3_ok:SpecsOk Tryz.prog sRaw3:=⟨rAdd_ok,rCut_ok,rCmp_ok,sRaw2_ok⟩
def overX(x y:Dx)(p:Int)(up:Bool):Dx :=
  if x.m=0 then ⟨false,[],0⟩ else
  cutD (mkD (!(x.neg == y.neg)) (stickyM (x.m*2^(max (p+2+blen y.m-blen x.m) 0).toNat/y.m) (decide (x.m*2^(max (p+2+blen y.m-blen x.m) 0).toNat % y.m≠0))) (x.e-y.e-max (p+2+blen y.m-blen x.m) 0-1)) p up
def overD(a b:Dx)(p:Int)(up:Bool):Dx:=overX (oneD a) (oneD b) p up
theorem blen_mul{m n:Int}(hm:0≤m)(_:0≤n):blen (m*n)≤blen m+blen n:=by
  refine blen_le ?_
  rw [Int.pow_add]
  have h1:=blen_lt m
  have h2:=blen_lt n
  have p1:=two_pow_pos (blen m)
  exact Int.lt_of_le_of_lt (imL (Int.le_of_lt h2) hm) (Int.mul_lt_mul_of_pos_right h1 (two_pow_pos _))
theorem blen_pow(k:Nat):blen (2^k)=k+1:=blen_eq (Int.le_refl _) (two_pow_lt (by omega))
theorem sticky_blen{q:Int}{b:Bool}(h:0≤q):0≤stickyM q b∧blen (stickyM q b)≤blen q+1:=by
  have h1:=blen_lt q
  refine ⟨by unfold stickyM;split<;>omega,blen_le ?_⟩
  rw [Int.pow_succ]
  unfold stickyM;split<;>omega
def rOver:Spec:=specK [.d,.d,.i .i64,.b] fun (a:Dx) (b:Dx) (p:Int) (up:Bool)=>(some (a.Sm 67108864∧b.Sm 67108864∧b.m≠0∧0≤p∧p≤67108864),dT (overD a b p up))
theorem rOver_vc(a b:Dx)(p:Int)(up:Bool)(Q:Tv→Prop):execF ⟨tys,sRaw3⟩ (fun _=>none) 0 Tryz.f59 [.agg (dyL false a),.agg (dyL false b),.one (.int .i64 p),.one (.bool up)] Q=(((-4611686018427387904:Int)≤a.e∧a.e≤4611686018427387904)∧((-4611686018427387904:Int)≤b.e∧b.e≤4611686018427387904)∧true=true∧br (Dx.zeroB (oneD a)) (Q (Tv.sv (Sv.agg [At.bool false,At.words true [],At.int IntKind.i64 0]))) (inR (p+2)∧inR (p+2+(↑(blen (val (oneD b).xs)):Int))∧inR (p+2+(↑(blen (val (oneD b).xs)):Int)-(↑(blen (val (oneD a).xs)):Int))∧true=true∧((0:Int)≤maxI (p+2+(↑(blen (val (oneD b).xs)):Int)-(↑(blen (val (oneD a).xs)):Int)) 0∧maxI (p+2+(↑(blen (val (oneD b).xs)):Int)-(↑(blen (val (oneD a).xs)):Int)) 0≤1099511627776∧List.length (ws (val (oneD a).xs))≤8796093022208)∧((0:Int)<val (oneD b).xs∧List.length (ws (val (ws (val (oneD a).xs*2^Int.toNat (maxI (p+2+(↑(blen (val (oneD b).xs)):Int)-(↑(blen (val (oneD a).xs)):Int)) 0)))))≤8796093022206)∧true=true∧inR ((oneD a).e-(oneD b).e)∧inR ((oneD a).e-(oneD b).e-maxI (p+2+(↑(blen (val (oneD b).xs)):Int)-(↑(blen (val (oneD a).xs)):Int)) 0)∧(List.length (ws (val (ws (val (ws (val (oneD a).xs*2^Int.toNat (maxI (p+2+(↑(blen (val (oneD b).xs)):Int)-(↑(blen (val (oneD a).xs)):Int)) 0)))/val (oneD b).xs))))≤8796093022207∧(-2305843009213693952:Int)≤(oneD a).e-(oneD b).e-maxI (p+2+(↑(blen (val (oneD b).xs)):Int)-(↑(blen (val (oneD a).xs)):Int)) 0∧(oneD a).e-(oneD b).e-maxI (p+2+(↑(blen (val (oneD b).xs)):Int)-(↑(blen (val (oneD a).xs)):Int)) 0≤2305843009213693952)∧(Dx.Sm 34359738368 (mkD (!(oneD a).neg == (oneD b).neg) (stickyM (val (ws (val (ws (val (oneD a).xs*2^Int.toNat (maxI (p+2+(↑(blen (val (oneD b).xs)):Int)-(↑(blen (val (oneD a).xs)):Int)) 0)))/val (oneD b).xs))) (ltI 0 (↑(List.length (ws (val (ws (val (oneD a).xs*2^Int.toNat (maxI (p+2+(↑(blen (val (oneD b).xs)):Int)-(↑(blen (val (oneD a).xs)):Int)) 0))) % val (oneD b).xs))):Int))) ((oneD a).e-(oneD b).e-maxI (p+2+(↑(blen (val (oneD b).xs)):Int)-(↑(blen (val (oneD a).xs)):Int)) 0-1))∧(0:Int)≤p∧p≤1099511627776)∧Q (Tv.sv (Sv.agg (dyL true (cutD (mkD (!(oneD a).neg == (oneD b).neg) (stickyM (val (ws (val (ws (val (oneD a).xs*2^Int.toNat (maxI (p+2+(↑(blen (val (oneD b).xs)):Int)-(↑(blen (val (oneD a).xs)):Int)) 0)))/val (oneD b).xs))) (ltI 0 (↑(List.length (ws (val (ws (val (oneD a).xs*2^Int.toNat (maxI (p+2+(↑(blen (val (oneD b).xs)):Int)-(↑(blen (val (oneD a).xs)):Int)) 0))) % val (oneD b).xs))):Int))) ((oneD a).e-(oneD b).e-maxI (p+2+(↑(blen (val (oneD b).xs)):Int)-(↑(blen (val (oneD a).xs)):Int)) 0-1)) p up)))))):=by kernel_rfl
theorem rOver_ok:SpecOk Tryz.prog 59 rOver :=
  specK_ok (envOk tys_ok sRaw3_ok) mixed Tryz.func59 rfl (by decide) (by decide) fun (a:Dx) ha (b:Dx) hb (p:Int) _ (up:Bool) _ hp=>⟨fun _=>none,0,by
    obtain ⟨s1,s2,hb0,p0,p1⟩:Dx.Sm 67108864 a∧Dx.Sm 67108864 b∧Dx.m b≠0∧0≤p∧p≤67108864:=hp
    have m1:=one_m0 (Dx.Wf.m0 ha)
    have m2:=one_m0 (Dx.Wf.m0 hb)
    have m2p:0<(oneD b).m:=by have:=(one_m_zero (Dx.Wf.m0 hb)).1;omega
    have z1:=one_sm (Dx.Wf.m0 ha) s1
    have z2:=one_sm (Dx.Wf.m0 hb) s2
    have b1:=s1.2
    have b2:=s2.2
    show execF _ _ _ _ _ (fun t=>t=dT (overX (oneD a) (oneD b) p up))
    refine (rOver_vc a b p up _).mpr ⟨⟨by omega,by omega⟩,⟨by omega,by omega⟩,rfl,?_⟩
    generalize oneD a=x at *
    generalize oneD b=y at *
    refine br_intro (fun h=>?_) fun h=>?_
    · rw [overX,if_pos (zeroB_true.1 h)];rfl
    · rw [zeroB_false] at h
      rw [overX,if_neg h]
      obtain ⟨s3,s4,s5⟩:=z1
      obtain ⟨s6,s7,s8⟩:=z2
      unfold Dx.m at *
      generalize val x.xs=X at *
      generalize val y.xs=Y at *
      rw [maxI_eq]
      generalize hk:max (p+2+(blen Y:Int)-(blen X:Int)) 0=k
      have k0:0≤k:=by omega
      have k1:k≤201326596:=by omega
      have hM:0≤X*2^k.toNat:=Int.mul_nonneg m1 (by have:=two_pow_pos k.toNat;omega)
      have hMb:blen (X*2^k.toNat)≤335544324:=by rw [blen_mul_pow (by omega)];omega
      have hQ:0≤X*2^k.toNat/Y:=Int.ediv_nonneg hM m2
      have hQb:=blen_mono (m:=X*2^k.toNat/Y) (n:=X*2^k.toNat) (Int.ediv_le_self _ hM)
      have hR:0≤X*2^k.toNat % Y:=Int.emod_nonneg _ (by omega)
      rw [val_ws hM,val_ws hQ,len_pos hR]
      have l1:=ws_blen (n:=X) (k:=8796093022206) m1 (by omega)
      have l2:=ws_blen (k:=8796093022206) hM (by omega)
      have l3:=ws_blen (k:=8796093022206) hQ (by omega)
      obtain ⟨t1,t2⟩:=sticky_blen (b:=decide (X*2^k.toNat % Y≠0)) hQ
      refine ⟨⟨by omega,by omega⟩,⟨by omega,by omega⟩,⟨by omega,by omega⟩,rfl,⟨by omega,by omega,by omega⟩,⟨m2p,by omega⟩,rfl,⟨by omega,by omega⟩,⟨by omega,by omega⟩,⟨by omega,by omega,by omega⟩,⟨?_,by omega,by omega⟩,rfl⟩
      exact (mkD_sm (N:=1073741824) (M:=1073741824) t1 (by omega) (by omega) (by omega)).mono (by omega)⟩
def rootK(x:Dx)(p:Int):Int:=max (2*p+4-blen x.m) 0+(x.e-max (2*p+4-blen x.m) 0) % 2
def rootX(x:Dx)(p:Int)(up:Bool):Dx :=
  if x.m=0 then x else
  cutD (mkD false (stickyM (isq (x.m*2^(rootK x p).toNat)) (decide (x.m*2^(rootK x p).toNat-isq (x.m*2^(rootK x p).toNat)*isq (x.m*2^(rootK x p).toNat)≠0))) ((x.e-rootK x p)/2-1)) p up
def rootD(a:Dx)(p:Int)(up:Bool):Dx:=rootX (oneD a) p up
def rRoot:Spec:=specK [.d,.i .i64,.b] fun (a:Dx) (p:Int) (up:Bool)=>(some (a.Sm 67108864∧0≤p∧p≤67108864),dT (rootD a p up))
theorem rRoot_vc(a:Dx)(p:Int)(up:Bool)(Q:Tv→Prop):execF ⟨tys,sRaw3⟩ (fun _=>none) 0 Tryz.f61 [.agg (dyL false a),.one (.int .i64 p),.one (.bool up)] Q=(((-4611686018427387904:Int)≤a.e∧a.e≤4611686018427387904)∧  br (Dx.zeroB (oneD a)) (Q (Tv.sv (Sv.agg (dyL true (oneD a)))))     (inR ((2:Int)*p)∧      inR ((2:Int)*p+4)∧        inR ((2:Int)*p+4-(↑(blen (val (oneD a).xs)):Int))∧          inR ((oneD a).e-maxI ((2:Int)*p+4-(↑(blen (val (oneD a).xs)):Int)) 0)∧            inR (maxI ((2:Int)*p+4-(↑(blen (val (oneD a).xs)):Int)) 0+bitsI BinOp.and IntKind.i64 ((oneD a).e-maxI ((2:Int)*p+4-(↑(blen (val (oneD a).xs)):Int)) 0) 1)∧              ((0:Int)≤maxI ((2:Int)*p+4-(↑(blen (val (oneD a).xs)):Int)) 0+bitsI BinOp.and IntKind.i64 ((oneD a).e-maxI ((2:Int)*p+4-(↑(blen (val (oneD a).xs)):Int)) 0) 1∧maxI ((2:Int)*p+4-(↑(blen (val (oneD a).xs)):Int)) 0+bitsI BinOp.and IntKind.i64 ((oneD a).e-maxI ((2:Int)*p+4-(↑(blen (val (oneD a).xs)):Int)) 0) 1≤1099511627776∧List.length (ws (val (oneD a).xs))≤8796093022208)∧                List.length (ws (val (ws (val (oneD a).xs*2^Int.toNat (maxI ((2:Int)*p+4-(↑(blen (val (oneD a).xs)):Int)) 0+bitsI BinOp.and IntKind.i64 ((oneD a).e-maxI ((2:Int)*p+4-(↑(blen (val (oneD a).xs)):Int)) 0) 1)))))≤1073741824∧                  inR ((oneD a).e-(maxI ((2:Int)*p+4-(↑(blen (val (oneD a).xs)):Int)) 0+bitsI BinOp.and IntKind.i64 ((oneD a).e-maxI ((2:Int)*p+4-(↑(blen (val (oneD a).xs)):Int)) 0) 1))∧                    ((2:Int)≠0∧inR (Int.tdiv ((oneD a).e-(maxI ((2:Int)*p+4-(↑(blen (val (oneD a).xs)):Int)) 0+bitsI BinOp.and IntKind.i64 ((oneD a).e-maxI ((2:Int)*p+4-(↑(blen (val (oneD a).xs)):Int)) 0) 1)) 2))∧                      (List.length (ws (val (ws (isq (val (ws (val (oneD a).xs*2^Int.toNat (maxI ((2:Int)*p+4-(↑(blen (val (oneD a).xs)):Int)) 0+bitsI BinOp.and IntKind.i64 ((oneD a).e-maxI ((2:Int)*p+4-(↑(blen (val (oneD a).xs)):Int)) 0) 1))))))))≤8796093022207∧(-2305843009213693952:Int)≤Int.tdiv ((oneD a).e-(maxI ((2:Int)*p+4-(↑(blen (val (oneD a).xs)):Int)) 0+bitsI BinOp.and IntKind.i64 ((oneD a).e-maxI ((2:Int)*p+4-(↑(blen (val (oneD a).xs)):Int)) 0) 1)) 2∧Int.tdiv ((oneD a).e-(maxI ((2:Int)*p+4-(↑(blen (val (oneD a).xs)):Int)) 0+bitsI BinOp.and IntKind.i64 ((oneD a).e-maxI ((2:Int)*p+4-(↑(blen (val (oneD a).xs)):Int)) 0) 1)) 2≤2305843009213693952)∧(Dx.Sm 34359738368 (mkD false (stickyM (val (ws (isq (val (ws (val (oneD a).xs*2^Int.toNat (maxI ((2:Int)*p+4-(↑(blen (val (oneD a).xs)):Int)) 0+bitsI BinOp.and IntKind.i64 ((oneD a).e-maxI ((2:Int)*p+4-(↑(blen (val (oneD a).xs)):Int)) 0) 1))))))) (ltI 0 (↑(List.length (ws (val (ws (val (oneD a).xs*2^Int.toNat (maxI ((2:Int)*p+4-(↑(blen (val (oneD a).xs)):Int)) 0+bitsI BinOp.and IntKind.i64 ((oneD a).e-maxI ((2:Int)*p+4-(↑(blen (val (oneD a).xs)):Int)) 0) 1)))-isq (val (ws (val (oneD a).xs*2^Int.toNat (maxI ((2:Int)*p+4-(↑(blen (val (oneD a).xs)):Int)) 0+bitsI BinOp.and IntKind.i64 ((oneD a).e-maxI ((2:Int)*p+4-(↑(blen (val (oneD a).xs)):Int)) 0) 1))))*isq (val (ws (val (oneD a).xs*2^Int.toNat (maxI ((2:Int)*p+4-(↑(blen (val (oneD a).xs)):Int)) 0+bitsI BinOp.and IntKind.i64 ((oneD a).e-maxI ((2:Int)*p+4-(↑(blen (val (oneD a).xs)):Int)) 0) 1))))))):Int))) (Int.tdiv ((oneD a).e-(maxI ((2:Int)*p+4-(↑(blen (val (oneD a).xs)):Int)) 0+bitsI BinOp.and IntKind.i64 ((oneD a).e-maxI ((2:Int)*p+4-(↑(blen (val (oneD a).xs)):Int)) 0) 1)) 2-1))∧(0:Int)≤p∧p≤1099511627776)∧Q (Tv.sv (Sv.agg (dyL true (cutD (mkD false (stickyM (val (ws (isq (val (ws (val (oneD a).xs*2^Int.toNat (maxI ((2:Int)*p+4-(↑(blen (val (oneD a).xs)):Int)) 0+bitsI BinOp.and IntKind.i64 ((oneD a).e-maxI ((2:Int)*p+4-(↑(blen (val (oneD a).xs)):Int)) 0) 1))))))) (ltI 0 (↑(List.length (ws (val (ws (val (oneD a).xs*2^Int.toNat (maxI ((2:Int)*p+4-(↑(blen (val (oneD a).xs)):Int)) 0+bitsI BinOp.and IntKind.i64 ((oneD a).e-maxI ((2:Int)*p+4-(↑(blen (val (oneD a).xs)):Int)) 0) 1)))-isq (val (ws (val (oneD a).xs*2^Int.toNat (maxI ((2:Int)*p+4-(↑(blen (val (oneD a).xs)):Int)) 0+bitsI BinOp.and IntKind.i64 ((oneD a).e-maxI ((2:Int)*p+4-(↑(blen (val (oneD a).xs)):Int)) 0) 1))))*isq (val (ws (val (oneD a).xs*2^Int.toNat (maxI ((2:Int)*p+4-(↑(blen (val (oneD a).xs)):Int)) 0+bitsI BinOp.and IntKind.i64 ((oneD a).e-maxI ((2:Int)*p+4-(↑(blen (val (oneD a).xs)):Int)) 0) 1))))))):Int))) (Int.tdiv ((oneD a).e-(maxI ((2:Int)*p+4-(↑(blen (val (oneD a).xs)):Int)) 0+bitsI BinOp.and IntKind.i64 ((oneD a).e-maxI ((2:Int)*p+4-(↑(blen (val (oneD a).xs)):Int)) 0) 1)) 2-1)) p up)))))):=by kernel_rfl
theorem and_mask1(n:Int):bitsI .and .i64 n 1=n % 2:=by
  have h1:(BitVec.ofInt 64 1).toNat=2^1-1:=by decide
  have key:(BitVec.ofInt 64 n &&& BitVec.ofInt 64 1).toNat=(n % ((2^64:Nat):Int)).toNat % 2^1:=by
    rw [BitVec.toNat_and,BitVec.toNat_ofInt,h1,Nat.and_two_pow_sub_one_eq_mod]
  show IntKind.i64.wrap ((BitVec.ofInt 64 n &&& BitVec.ofInt 64 1).toNat:Nat)=n % 2
  rw [key,IntKind.wrap_i64]
  omega
theorem isq_le_self{n:Int}(h:0≤n):isq n≤n:=by
  have h1:=isq_le h
  have h0:=isq_nonneg n
  by_cases hz:isq n=0
  · omega
  · have:=imL (show 1≤isq n by omega) h0
    omega
theorem tdiv_even{n:Int}(h:n % 2=0):n.tdiv 2=n/2:=by
  obtain ⟨k,rfl⟩:∃ k,n=2*k:=⟨n/2,by omega⟩
  rw [Int.mul_tdiv_cancel_left _ (by omega)];omega
theorem rRoot_ok:SpecOk Tryz.prog 61 rRoot :=
  specK_ok (envOk tys_ok sRaw3_ok) mixed Tryz.func61 rfl (by decide) (by decide) fun (a:Dx) ha (p:Int) _ (up:Bool) _ hp=>⟨fun _=>none,0,by
    obtain ⟨s1,p0,p1⟩:Dx.Sm 67108864 a∧0≤p∧p≤67108864:=hp
    have m1:=one_m0 (Dx.Wf.m0 ha)
    have z1:=one_sm (Dx.Wf.m0 ha) s1
    have b1:=s1.2
    show execF _ _ _ _ _ (fun t=>t=dT (rootX (oneD a) p up))
    refine (rRoot_vc a p up _).mpr ⟨⟨by omega,by omega⟩,?_⟩
    generalize oneD a=x at *
    refine br_intro (fun h=>?_) fun h=>?_
    · rw [rootX,if_pos (zeroB_true.1 h)]
    · rw [zeroB_false] at h
      rw [rootX,if_neg h]
      obtain ⟨s3,s4,s5⟩:=z1
      rw [maxI_eq,and_mask1]
      show _∧_
      have hk:∃ k,rootK x p=k:=⟨_,rfl⟩
      obtain ⟨k,hk⟩:=hk
      rw [hk]
      have hk':=hk
      unfold rootK at hk'
      unfold Dx.m at *
      rw [hk']
      have ev:(x.e-k) % 2=0:=by omega
      rw [tdiv_even ev]
      generalize val x.xs=X at *
      have k0:0≤k:=by omega
      have k1:k≤134217733:=by omega
      have hM:0≤X*2^k.toNat:=Int.mul_nonneg m1 (by have:=two_pow_pos k.toNat;omega)
      have hMb:blen (X*2^k.toNat)≤335544324:=by rw [blen_mul_pow (by omega)];omega
      have hQ:0≤isq (X*2^k.toNat):=isq_nonneg _
      have hQb:=blen_mono (isq_le_self hM)
      have hR:0≤X*2^k.toNat-isq (X*2^k.toNat)*isq (X*2^k.toNat):=by have:=isq_le hM;omega
      rw [val_ws hM,val_ws hQ,len_pos hR]
      have l1:=ws_blen (n:=X) (k:=8796093022206) m1 (by omega)
      have l2:=ws_blen (k:=1073741824) hM (by omega)
      have l3:=ws_blen (k:=8796093022206) hQ (by omega)
      obtain ⟨t1,t2⟩:=sticky_blen (b:=decide (X*2^k.toNat-isq (X*2^k.toNat)*isq (X*2^k.toNat)≠0)) hQ
      refine ⟨⟨by omega,by omega⟩,⟨by omega,by omega⟩,⟨by omega,by omega⟩,⟨by omega,by omega⟩,⟨by omega,by omega⟩,⟨by omega,by omega,by omega⟩,l2,⟨by omega,by omega⟩,⟨by omega,by omega,by omega⟩,⟨by omega,by omega,by omega⟩,⟨?_,by omega,by omega⟩,rfl⟩
      exact (mkD_sm (N:=1073741824) (M:=1073741824) t1 (by omega) (by omega) (by omega)).mono (by omega)⟩
def sRaw4:List (FuncId×Spec):=[(59,rOver),(61,rRoot)] ++ sRaw3
theorem sRaw4_ok:SpecsOk Tryz.prog sRaw4:=⟨rOver_ok,rRoot_ok,sRaw3_ok⟩
theorem specOk_at {P : Program} {E : Env} (hE : EnvOk P E) (hm : P.follows .mixedOrders = true) {f : FuncId} {fn : Func} {c : Code} (hf : P.funcs[f]? = some fn) (hb : fn.body = some c) (hname : (fn.name == "runtime.NumGoroutine") = false) {sp : Spec} (k : Nat) (hk : k ≤ fn.ntmps)
    (h:∀ l p t,sp l=(p,t)→(match p with | none=>True | some p=>p)→l.length≤k∧∃ inv fuel,execF E inv fuel fn l (fun x=>x=t)):SpecOk P f sp :=
  specOk_of hE hm hf hb hname k hk fun l hp=>h l (sp l).1 (sp l).2 rfl hp
def vF(v:Vx):Tv:=.sv (.agg (ivL false v))
def spanS(v:Vx)(d:Dx):Vx:=⟨if cmpD d v.lo<0 then d else v.lo,if 0<cmpD d v.hi then d else v.hi⟩
def Vx.Sm(N:Nat)(v:Vx):Prop:=v.lo.Sm N∧v.hi.Sm N
theorem spanS_sm{N:Nat}{v:Vx}{d:Dx}(h:v.Sm N)(k:d.Sm N):(spanS v d).Sm N:=by
  unfold spanS
  constructor
  · show Dx.Sm N (if _ then _ else _);split<;>first | exact k | exact h.1
  · show Dx.Sm N (if _ then _ else _);split<;>first | exact k | exact h.2
def spanL(a:Dx)(l:List Dx):Vx:=l.foldl spanS ⟨a,a⟩
def spK:LKeep:=⟨[14,15,16,3,2],[(0,6),(8,6)],14⟩
def spSt(n:Nat)(cs:List At)(j:Int)(v:Vx):List (Nat×Tv)×List (Nat×Nat×At) :=
  ([(14,.sv (.one (.rows false 3 n cs))),(15,iT n),(16,iT j),(3,.sv (.one (.ptr 8 0))),(2,.sv (.one (.ptr 0 0)))],
   [(0,0,.bool false),(0,1,.words true []),(0,2,.int .i64 0),(0,3,.bool false),(0,4,.words true []),(0,5,.int .i64 0),(8,0,.bool v.lo.neg),(8,1,.words false v.lo.xs),(8,2,.int .i64 v.lo.e),(8,3,.bool v.hi.neg),(8,4,.words false v.hi.xs),(8,5,.int .i64 v.hi.e)])
theorem rSpan2_vc(a b:Dx)(Q:Tv→Prop):execF ⟨tys,sRaw4⟩ (invAt 3 (.cuts spK [spSt 1 (dyL false b) 0 ⟨a,a⟩,spSt 1 (dyL false b) 1 (spanS ⟨a,a⟩ b)])) 0 Tryz.f57 [.one (.rows false 3 2 (dyL false a ++ dyL false b))] Q=(((0:Int)≤0∧(0:Int)<(↑(2:Nat):Int))∧  ((0:Int)≤0∧(0:Int)<(↑(2:Nat):Int))∧    true=true∧      ((0:Int)≤1∧(1:Int)<(↑(2:Nat):Int))∧        true=true∧          Sg.mk [((14:Nat),Tv.sv (Sv.one (At.rows false 3 1 (dyL false b)))),((15:Nat),Tv.sv (Sv.one (At.int IntKind.i64 (↑(1:Nat):Int)))),((16:Nat),Tv.sv (Sv.one (At.int IntKind.i64 0))),((3:Nat),Tv.sv (Sv.one (At.ptr ((1:Nat)+7) 0))),((2:Nat),Tv.sv (Sv.one (At.ptr 0 0)))] [((0:Nat),(0:Nat),At.bool false),((0:Nat),(1:Nat),At.words true []),((0:Nat),(2:Nat),At.int IntKind.i64 0),((0:Nat),(3:Nat),At.bool false),((0:Nat),(4:Nat),At.words true []),((0:Nat),(5:Nat),At.int IntKind.i64 0),((8:Nat),(0:Nat),At.bool a.neg),((8:Nat),(1:Nat),At.words false a.xs),((8:Nat),(2:Nat),At.int IntKind.i64 a.e),((8:Nat),(3:Nat),At.bool a.neg),((8:Nat),(4:Nat),At.words false a.xs),((8:Nat),(5:Nat),At.int IntKind.i64 a.e)] 14=Sg.mk [((14:Nat),Tv.sv (Sv.one (At.rows false 3 1 (dyL false b)))),((15:Nat),Tv.sv (Sv.one (At.int IntKind.i64 (↑(1:Nat):Int)))),((16:Nat),Tv.sv (Sv.one (At.int IntKind.i64 0))),((3:Nat),Tv.sv (Sv.one (At.ptr 8 0))),((2:Nat),Tv.sv (Sv.one (At.ptr 0 0)))] [((0:Nat),(0:Nat),At.bool false),((0:Nat),(1:Nat),At.words true []),((0:Nat),(2:Nat),At.int IntKind.i64 0),((0:Nat),(3:Nat),At.bool false),((0:Nat),(4:Nat),At.words true []),((0:Nat),(5:Nat),At.int IntKind.i64 0),((8:Nat),(0:Nat),At.bool a.neg),((8:Nat),(1:Nat),At.words false a.xs),((8:Nat),(2:Nat),At.int IntKind.i64 a.e),((8:Nat),(3:Nat),At.bool a.neg),((8:Nat),(4:Nat),At.words false a.xs),((8:Nat),(5:Nat),At.int IntKind.i64 a.e)] 14∧            (((0:Int)≤0∧(0:Int)<(↑(1:Nat):Int))∧                (Dx.Sm 68719476736 b∧Dx.Sm 68719476736 a)∧                  br (ltI (cmpD b a) 0)                     ((Dx.Sm 68719476736 b∧Dx.Sm 68719476736 a)∧                      br (ltI 0 (cmpD b a)) (inR ((0:Int)+1)∧true=true∧Sg.mk [((14:Nat),Tv.sv (Sv.one (At.rows false 3 1 (dyL false b)))),((15:Nat),Tv.sv (Sv.one (At.int IntKind.i64 (↑(1:Nat):Int)))),((16:Nat),Tv.sv (Sv.one (At.int IntKind.i64 ((0:Int)+1)))),((3:Nat),Tv.sv (Sv.one (At.ptr 8 0))),((2:Nat),Tv.sv (Sv.one (At.ptr 0 0)))] [((0:Nat),(0:Nat),At.bool false),((0:Nat),(1:Nat),At.words true []),((0:Nat),(2:Nat),At.int IntKind.i64 0),((0:Nat),(3:Nat),At.bool false),((0:Nat),(4:Nat),At.words true []),((0:Nat),(5:Nat),At.int IntKind.i64 0),((8:Nat),(0:Nat),At.bool b.neg),((8:Nat),(1:Nat),At.words false b.xs),((8:Nat),(2:Nat),At.int IntKind.i64 b.e),((8:Nat),(3:Nat),At.bool b.neg),((8:Nat),(4:Nat),At.words false b.xs),((8:Nat),(5:Nat),At.int IntKind.i64 b.e)] 14=Sg.mk [((14:Nat),Tv.sv (Sv.one (At.rows false 3 1 (dyL false b)))),((15:Nat),Tv.sv (Sv.one (At.int IntKind.i64 (↑(1:Nat):Int)))),((16:Nat),Tv.sv (Sv.one (At.int IntKind.i64 1))),((3:Nat),Tv.sv (Sv.one (At.ptr 8 0))),((2:Nat),Tv.sv (Sv.one (At.ptr 0 0)))] [((0:Nat),(0:Nat),At.bool false),((0:Nat),(1:Nat),At.words true []),((0:Nat),(2:Nat),At.int IntKind.i64 0),((0:Nat),(3:Nat),At.bool false),((0:Nat),(4:Nat),At.words true []),((0:Nat),(5:Nat),At.int IntKind.i64 0),((8:Nat),(0:Nat),At.bool (spanS (Vx.mk a a) b).lo.neg),((8:Nat),(1:Nat),At.words false (spanS (Vx.mk a a) b).lo.xs),((8:Nat),(2:Nat),At.int IntKind.i64 (spanS (Vx.mk a a) b).lo.e),((8:Nat),(3:Nat),At.bool (spanS (Vx.mk a a) b).hi.neg),((8:Nat),(4:Nat),At.words false (spanS (Vx.mk a a) b).hi.xs),((8:Nat),(5:Nat),At.int IntKind.i64 (spanS (Vx.mk a a) b).hi.e)] 14) (inR ((0:Int)+1)∧true=true∧Sg.mk [((14:Nat),Tv.sv (Sv.one (At.rows false 3 1 (dyL false b)))),((15:Nat),Tv.sv (Sv.one (At.int IntKind.i64 (↑(1:Nat):Int)))),((16:Nat),Tv.sv (Sv.one (At.int IntKind.i64 ((0:Int)+1)))),((3:Nat),Tv.sv (Sv.one (At.ptr 8 0))),((2:Nat),Tv.sv (Sv.one (At.ptr 0 0)))] [((0:Nat),(0:Nat),At.bool false),((0:Nat),(1:Nat),At.words true []),((0:Nat),(2:Nat),At.int IntKind.i64 0),((0:Nat),(3:Nat),At.bool false),((0:Nat),(4:Nat),At.words true []),((0:Nat),(5:Nat),At.int IntKind.i64 0),((8:Nat),(0:Nat),At.bool b.neg),((8:Nat),(1:Nat),At.words false b.xs),((8:Nat),(2:Nat),At.int IntKind.i64 b.e),((8:Nat),(3:Nat),At.bool a.neg),((8:Nat),(4:Nat),At.words false a.xs),((8:Nat),(5:Nat),At.int IntKind.i64 a.e)] 14=Sg.mk [((14:Nat),Tv.sv (Sv.one (At.rows false 3 1 (dyL false b)))),((15:Nat),Tv.sv (Sv.one (At.int IntKind.i64 (↑(1:Nat):Int)))),((16:Nat),Tv.sv (Sv.one (At.int IntKind.i64 1))),((3:Nat),Tv.sv (Sv.one (At.ptr 8 0))),((2:Nat),Tv.sv (Sv.one (At.ptr 0 0)))] [((0:Nat),(0:Nat),At.bool false),((0:Nat),(1:Nat),At.words true []),((0:Nat),(2:Nat),At.int IntKind.i64 0),((0:Nat),(3:Nat),At.bool false),((0:Nat),(4:Nat),At.words true []),((0:Nat),(5:Nat),At.int IntKind.i64 0),((8:Nat),(0:Nat),At.bool (spanS (Vx.mk a a) b).lo.neg),((8:Nat),(1:Nat),At.words false (spanS (Vx.mk a a) b).lo.xs),((8:Nat),(2:Nat),At.int IntKind.i64 (spanS (Vx.mk a a) b).lo.e),((8:Nat),(3:Nat),At.bool (spanS (Vx.mk a a) b).hi.neg),((8:Nat),(4:Nat),At.words false (spanS (Vx.mk a a) b).hi.xs),((8:Nat),(5:Nat),At.int IntKind.i64 (spanS (Vx.mk a a) b).hi.e)] 14))                     ((Dx.Sm 68719476736 b∧Dx.Sm 68719476736 a)∧                      br (ltI 0 (cmpD b a)) (inR ((0:Int)+1)∧true=true∧Sg.mk [((14:Nat),Tv.sv (Sv.one (At.rows false 3 1 (dyL false b)))),((15:Nat),Tv.sv (Sv.one (At.int IntKind.i64 (↑(1:Nat):Int)))),((16:Nat),Tv.sv (Sv.one (At.int IntKind.i64 ((0:Int)+1)))),((3:Nat),Tv.sv (Sv.one (At.ptr 8 0))),((2:Nat),Tv.sv (Sv.one (At.ptr 0 0)))] [((0:Nat),(0:Nat),At.bool false),((0:Nat),(1:Nat),At.words true []),((0:Nat),(2:Nat),At.int IntKind.i64 0),((0:Nat),(3:Nat),At.bool false),((0:Nat),(4:Nat),At.words true []),((0:Nat),(5:Nat),At.int IntKind.i64 0),((8:Nat),(0:Nat),At.bool a.neg),((8:Nat),(1:Nat),At.words false a.xs),((8:Nat),(2:Nat),At.int IntKind.i64 a.e),((8:Nat),(3:Nat),At.bool b.neg),((8:Nat),(4:Nat),At.words false b.xs),((8:Nat),(5:Nat),At.int IntKind.i64 b.e)] 14=Sg.mk [((14:Nat),Tv.sv (Sv.one (At.rows false 3 1 (dyL false b)))),((15:Nat),Tv.sv (Sv.one (At.int IntKind.i64 (↑(1:Nat):Int)))),((16:Nat),Tv.sv (Sv.one (At.int IntKind.i64 1))),((3:Nat),Tv.sv (Sv.one (At.ptr 8 0))),((2:Nat),Tv.sv (Sv.one (At.ptr 0 0)))] [((0:Nat),(0:Nat),At.bool false),((0:Nat),(1:Nat),At.words true []),((0:Nat),(2:Nat),At.int IntKind.i64 0),((0:Nat),(3:Nat),At.bool false),((0:Nat),(4:Nat),At.words true []),((0:Nat),(5:Nat),At.int IntKind.i64 0),((8:Nat),(0:Nat),At.bool (spanS (Vx.mk a a) b).lo.neg),((8:Nat),(1:Nat),At.words false (spanS (Vx.mk a a) b).lo.xs),((8:Nat),(2:Nat),At.int IntKind.i64 (spanS (Vx.mk a a) b).lo.e),((8:Nat),(3:Nat),At.bool (spanS (Vx.mk a a) b).hi.neg),((8:Nat),(4:Nat),At.words false (spanS (Vx.mk a a) b).hi.xs),((8:Nat),(5:Nat),At.int IntKind.i64 (spanS (Vx.mk a a) b).hi.e)] 14) (inR ((0:Int)+1)∧true=true∧Sg.mk [((14:Nat),Tv.sv (Sv.one (At.rows false 3 1 (dyL false b)))),((15:Nat),Tv.sv (Sv.one (At.int IntKind.i64 (↑(1:Nat):Int)))),((16:Nat),Tv.sv (Sv.one (At.int IntKind.i64 ((0:Int)+1)))),((3:Nat),Tv.sv (Sv.one (At.ptr 8 0))),((2:Nat),Tv.sv (Sv.one (At.ptr 0 0)))] [((0:Nat),(0:Nat),At.bool false),((0:Nat),(1:Nat),At.words true []),((0:Nat),(2:Nat),At.int IntKind.i64 0),((0:Nat),(3:Nat),At.bool false),((0:Nat),(4:Nat),At.words true []),((0:Nat),(5:Nat),At.int IntKind.i64 0),((8:Nat),(0:Nat),At.bool a.neg),((8:Nat),(1:Nat),At.words false a.xs),((8:Nat),(2:Nat),At.int IntKind.i64 a.e),((8:Nat),(3:Nat),At.bool a.neg),((8:Nat),(4:Nat),At.words false a.xs),((8:Nat),(5:Nat),At.int IntKind.i64 a.e)] 14=Sg.mk [((14:Nat),Tv.sv (Sv.one (At.rows false 3 1 (dyL false b)))),((15:Nat),Tv.sv (Sv.one (At.int IntKind.i64 (↑(1:Nat):Int)))),((16:Nat),Tv.sv (Sv.one (At.int IntKind.i64 1))),((3:Nat),Tv.sv (Sv.one (At.ptr 8 0))),((2:Nat),Tv.sv (Sv.one (At.ptr 0 0)))] [((0:Nat),(0:Nat),At.bool false),((0:Nat),(1:Nat),At.words true []),((0:Nat),(2:Nat),At.int IntKind.i64 0),((0:Nat),(3:Nat),At.bool false),((0:Nat),(4:Nat),At.words true []),((0:Nat),(5:Nat),At.int IntKind.i64 0),((8:Nat),(0:Nat),At.bool (spanS (Vx.mk a a) b).lo.neg),((8:Nat),(1:Nat),At.words false (spanS (Vx.mk a a) b).lo.xs),((8:Nat),(2:Nat),At.int IntKind.i64 (spanS (Vx.mk a a) b).lo.e),((8:Nat),(3:Nat),At.bool (spanS (Vx.mk a a) b).hi.neg),((8:Nat),(4:Nat),At.words false (spanS (Vx.mk a a) b).hi.xs),((8:Nat),(5:Nat),At.int IntKind.i64 (spanS (Vx.mk a a) b).hi.e)] 14)))∧              Q (Tv.sv (Sv.agg (ivL false (spanS (Vx.mk a a) b))))∧True):=by kernel_rfl
theorem rSpan4_vc(a b c d:Dx)(v1 v2 v3:Vx)(Q:Tv→Prop):execF ⟨tys,sRaw4⟩ (invAt 3 (.cuts spK [spSt 3 (dyL false b ++ (dyL false c ++ dyL false d)) 0 ⟨a,a⟩,spSt 3 (dyL false b ++ (dyL false c ++ dyL false d)) 1 v1,spSt 3 (dyL false b ++ (dyL false c ++ dyL false d)) 2 v2,spSt 3 (dyL false b ++ (dyL false c ++ dyL false d)) 3 v3])) 0 Tryz.f57 [.one (.rows false 3 4 (dyL false a ++ (dyL false b ++ (dyL false c ++ dyL false d))))] Q=(((0:Int)≤0∧(0:Int)<(↑(4:Nat):Int))∧  ((0:Int)≤0∧(0:Int)<(↑(4:Nat):Int))∧    true=true∧      ((0:Int)≤1∧(1:Int)<(↑(4:Nat):Int))∧        true=true∧          Sg.mk [((14:Nat),Tv.sv (Sv.one (At.rows false 3 3 (At.bool b.neg :: At.words false b.xs :: At.int IntKind.i64 b.e :: ivL false (Vx.mk c d))))),((15:Nat),Tv.sv (Sv.one (At.int IntKind.i64 (↑(3:Nat):Int)))),((16:Nat),Tv.sv (Sv.one (At.int IntKind.i64 0))),((3:Nat),Tv.sv (Sv.one (At.ptr ((1:Nat)+7) 0))),((2:Nat),Tv.sv (Sv.one (At.ptr 0 0)))] [((0:Nat),(0:Nat),At.bool false),((0:Nat),(1:Nat),At.words true []),((0:Nat),(2:Nat),At.int IntKind.i64 0),((0:Nat),(3:Nat),At.bool false),((0:Nat),(4:Nat),At.words true []),((0:Nat),(5:Nat),At.int IntKind.i64 0),((8:Nat),(0:Nat),At.bool a.neg),((8:Nat),(1:Nat),At.words false a.xs),((8:Nat),(2:Nat),At.int IntKind.i64 a.e),((8:Nat),(3:Nat),At.bool a.neg),((8:Nat),(4:Nat),At.words false a.xs),((8:Nat),(5:Nat),At.int IntKind.i64 a.e)] 14=Sg.mk [((14:Nat),Tv.sv (Sv.one (At.rows false 3 3 (At.bool b.neg :: At.words false b.xs :: At.int IntKind.i64 b.e :: ivL false (Vx.mk c d))))),((15:Nat),Tv.sv (Sv.one (At.int IntKind.i64 (↑(3:Nat):Int)))),((16:Nat),Tv.sv (Sv.one (At.int IntKind.i64 0))),((3:Nat),Tv.sv (Sv.one (At.ptr 8 0))),((2:Nat),Tv.sv (Sv.one (At.ptr 0 0)))] [((0:Nat),(0:Nat),At.bool false),((0:Nat),(1:Nat),At.words true []),((0:Nat),(2:Nat),At.int IntKind.i64 0),((0:Nat),(3:Nat),At.bool false),((0:Nat),(4:Nat),At.words true []),((0:Nat),(5:Nat),At.int IntKind.i64 0),((8:Nat),(0:Nat),At.bool a.neg),((8:Nat),(1:Nat),At.words false a.xs),((8:Nat),(2:Nat),At.int IntKind.i64 a.e),((8:Nat),(3:Nat),At.bool a.neg),((8:Nat),(4:Nat),At.words false a.xs),((8:Nat),(5:Nat),At.int IntKind.i64 a.e)] 14∧            (((0:Int)≤0∧(0:Int)<(↑(3:Nat):Int))∧                (Dx.Sm 68719476736 b∧Dx.Sm 68719476736 a)∧                  br (ltI (cmpD b a) 0)                     ((Dx.Sm 68719476736 b∧Dx.Sm 68719476736 a)∧                      br (ltI 0 (cmpD b a)) (inR ((0:Int)+1)∧true=true∧Sg.mk [((14:Nat),Tv.sv (Sv.one (At.rows false 3 3 (At.bool b.neg :: At.words false b.xs :: At.int IntKind.i64 b.e :: ivL false (Vx.mk c d))))),((15:Nat),Tv.sv (Sv.one (At.int IntKind.i64 (↑(3:Nat):Int)))),((16:Nat),Tv.sv (Sv.one (At.int IntKind.i64 ((0:Int)+1)))),((3:Nat),Tv.sv (Sv.one (At.ptr 8 0))),((2:Nat),Tv.sv (Sv.one (At.ptr 0 0)))] [((0:Nat),(0:Nat),At.bool false),((0:Nat),(1:Nat),At.words true []),((0:Nat),(2:Nat),At.int IntKind.i64 0),((0:Nat),(3:Nat),At.bool false),((0:Nat),(4:Nat),At.words true []),((0:Nat),(5:Nat),At.int IntKind.i64 0),((8:Nat),(0:Nat),At.bool b.neg),((8:Nat),(1:Nat),At.words false b.xs),((8:Nat),(2:Nat),At.int IntKind.i64 b.e),((8:Nat),(3:Nat),At.bool b.neg),((8:Nat),(4:Nat),At.words false b.xs),((8:Nat),(5:Nat),At.int IntKind.i64 b.e)] 14=Sg.mk [((14:Nat),Tv.sv (Sv.one (At.rows false 3 3 (At.bool b.neg :: At.words false b.xs :: At.int IntKind.i64 b.e :: ivL false (Vx.mk c d))))),((15:Nat),Tv.sv (Sv.one (At.int IntKind.i64 (↑(3:Nat):Int)))),((16:Nat),Tv.sv (Sv.one (At.int IntKind.i64 1))),((3:Nat),Tv.sv (Sv.one (At.ptr 8 0))),((2:Nat),Tv.sv (Sv.one (At.ptr 0 0)))] [((0:Nat),(0:Nat),At.bool false),((0:Nat),(1:Nat),At.words true []),((0:Nat),(2:Nat),At.int IntKind.i64 0),((0:Nat),(3:Nat),At.bool false),((0:Nat),(4:Nat),At.words true []),((0:Nat),(5:Nat),At.int IntKind.i64 0),((8:Nat),(0:Nat),At.bool v1.lo.neg),((8:Nat),(1:Nat),At.words false v1.lo.xs),((8:Nat),(2:Nat),At.int IntKind.i64 v1.lo.e),((8:Nat),(3:Nat),At.bool v1.hi.neg),((8:Nat),(4:Nat),At.words false v1.hi.xs),((8:Nat),(5:Nat),At.int IntKind.i64 v1.hi.e)] 14)                         (inR ((0:Int)+1)∧true=true∧Sg.mk [((14:Nat),Tv.sv (Sv.one (At.rows false 3 3 (At.bool b.neg :: At.words false b.xs :: At.int IntKind.i64 b.e :: ivL false (Vx.mk c d))))),((15:Nat),Tv.sv (Sv.one (At.int IntKind.i64 (↑(3:Nat):Int)))),((16:Nat),Tv.sv (Sv.one (At.int IntKind.i64 ((0:Int)+1)))),((3:Nat),Tv.sv (Sv.one (At.ptr 8 0))),((2:Nat),Tv.sv (Sv.one (At.ptr 0 0)))] [((0:Nat),(0:Nat),At.bool false),((0:Nat),(1:Nat),At.words true []),((0:Nat),(2:Nat),At.int IntKind.i64 0),((0:Nat),(3:Nat),At.bool false),((0:Nat),(4:Nat),At.words true []),((0:Nat),(5:Nat),At.int IntKind.i64 0),((8:Nat),(0:Nat),At.bool b.neg),((8:Nat),(1:Nat),At.words false b.xs),((8:Nat),(2:Nat),At.int IntKind.i64 b.e),((8:Nat),(3:Nat),At.bool a.neg),((8:Nat),(4:Nat),At.words false a.xs),((8:Nat),(5:Nat),At.int IntKind.i64 a.e)] 14=Sg.mk [((14:Nat),Tv.sv (Sv.one (At.rows false 3 3 (At.bool b.neg :: At.words false b.xs :: At.int IntKind.i64 b.e :: ivL false (Vx.mk c d))))),((15:Nat),Tv.sv (Sv.one (At.int IntKind.i64 (↑(3:Nat):Int)))),((16:Nat),Tv.sv (Sv.one (At.int IntKind.i64 1))),((3:Nat),Tv.sv (Sv.one (At.ptr 8 0))),((2:Nat),Tv.sv (Sv.one (At.ptr 0 0)))] [((0:Nat),(0:Nat),At.bool false),((0:Nat),(1:Nat),At.words true []),((0:Nat),(2:Nat),At.int IntKind.i64 0),((0:Nat),(3:Nat),At.bool false),((0:Nat),(4:Nat),At.words true []),((0:Nat),(5:Nat),At.int IntKind.i64 0),((8:Nat),(0:Nat),At.bool v1.lo.neg),((8:Nat),(1:Nat),At.words false v1.lo.xs),((8:Nat),(2:Nat),At.int IntKind.i64 v1.lo.e),((8:Nat),(3:Nat),At.bool v1.hi.neg),((8:Nat),(4:Nat),At.words false v1.hi.xs),((8:Nat),(5:Nat),At.int IntKind.i64 v1.hi.e)] 14))                     ((Dx.Sm 68719476736 b∧Dx.Sm 68719476736 a)∧                      br (ltI 0 (cmpD b a)) (inR ((0:Int)+1)∧true=true∧Sg.mk [((14:Nat),Tv.sv (Sv.one (At.rows false 3 3 (At.bool b.neg :: At.words false b.xs :: At.int IntKind.i64 b.e :: ivL false (Vx.mk c d))))),((15:Nat),Tv.sv (Sv.one (At.int IntKind.i64 (↑(3:Nat):Int)))),((16:Nat),Tv.sv (Sv.one (At.int IntKind.i64 ((0:Int)+1)))),((3:Nat),Tv.sv (Sv.one (At.ptr 8 0))),((2:Nat),Tv.sv (Sv.one (At.ptr 0 0)))] [((0:Nat),(0:Nat),At.bool false),((0:Nat),(1:Nat),At.words true []),((0:Nat),(2:Nat),At.int IntKind.i64 0),((0:Nat),(3:Nat),At.bool false),((0:Nat),(4:Nat),At.words true []),((0:Nat),(5:Nat),At.int IntKind.i64 0),((8:Nat),(0:Nat),At.bool a.neg),((8:Nat),(1:Nat),At.words false a.xs),((8:Nat),(2:Nat),At.int IntKind.i64 a.e),((8:Nat),(3:Nat),At.bool b.neg),((8:Nat),(4:Nat),At.words false b.xs),((8:Nat),(5:Nat),At.int IntKind.i64 b.e)] 14=Sg.mk [((14:Nat),Tv.sv (Sv.one (At.rows false 3 3 (At.bool b.neg :: At.words false b.xs :: At.int IntKind.i64 b.e :: ivL false (Vx.mk c d))))),((15:Nat),Tv.sv (Sv.one (At.int IntKind.i64 (↑(3:Nat):Int)))),((16:Nat),Tv.sv (Sv.one (At.int IntKind.i64 1))),((3:Nat),Tv.sv (Sv.one (At.ptr 8 0))),((2:Nat),Tv.sv (Sv.one (At.ptr 0 0)))] [((0:Nat),(0:Nat),At.bool false),((0:Nat),(1:Nat),At.words true []),((0:Nat),(2:Nat),At.int IntKind.i64 0),((0:Nat),(3:Nat),At.bool false),((0:Nat),(4:Nat),At.words true []),((0:Nat),(5:Nat),At.int IntKind.i64 0),((8:Nat),(0:Nat),At.bool v1.lo.neg),((8:Nat),(1:Nat),At.words false v1.lo.xs),((8:Nat),(2:Nat),At.int IntKind.i64 v1.lo.e),((8:Nat),(3:Nat),At.bool v1.hi.neg),((8:Nat),(4:Nat),At.words false v1.hi.xs),((8:Nat),(5:Nat),At.int IntKind.i64 v1.hi.e)] 14)                         (inR ((0:Int)+1)∧true=true∧Sg.mk [((14:Nat),Tv.sv (Sv.one (At.rows false 3 3 (At.bool b.neg :: At.words false b.xs :: At.int IntKind.i64 b.e :: ivL false (Vx.mk c d))))),((15:Nat),Tv.sv (Sv.one (At.int IntKind.i64 (↑(3:Nat):Int)))),((16:Nat),Tv.sv (Sv.one (At.int IntKind.i64 ((0:Int)+1)))),((3:Nat),Tv.sv (Sv.one (At.ptr 8 0))),((2:Nat),Tv.sv (Sv.one (At.ptr 0 0)))] [((0:Nat),(0:Nat),At.bool false),((0:Nat),(1:Nat),At.words true []),((0:Nat),(2:Nat),At.int IntKind.i64 0),((0:Nat),(3:Nat),At.bool false),((0:Nat),(4:Nat),At.words true []),((0:Nat),(5:Nat),At.int IntKind.i64 0),((8:Nat),(0:Nat),At.bool a.neg),((8:Nat),(1:Nat),At.words false a.xs),((8:Nat),(2:Nat),At.int IntKind.i64 a.e),((8:Nat),(3:Nat),At.bool a.neg),((8:Nat),(4:Nat),At.words false a.xs),((8:Nat),(5:Nat),At.int IntKind.i64 a.e)] 14=Sg.mk [((14:Nat),Tv.sv (Sv.one (At.rows false 3 3 (At.bool b.neg :: At.words false b.xs :: At.int IntKind.i64 b.e :: ivL false (Vx.mk c d))))),((15:Nat),Tv.sv (Sv.one (At.int IntKind.i64 (↑(3:Nat):Int)))),((16:Nat),Tv.sv (Sv.one (At.int IntKind.i64 1))),((3:Nat),Tv.sv (Sv.one (At.ptr 8 0))),((2:Nat),Tv.sv (Sv.one (At.ptr 0 0)))] [((0:Nat),(0:Nat),At.bool false),((0:Nat),(1:Nat),At.words true []),((0:Nat),(2:Nat),At.int IntKind.i64 0),((0:Nat),(3:Nat),At.bool false),((0:Nat),(4:Nat),At.words true []),((0:Nat),(5:Nat),At.int IntKind.i64 0),((8:Nat),(0:Nat),At.bool v1.lo.neg),((8:Nat),(1:Nat),At.words false v1.lo.xs),((8:Nat),(2:Nat),At.int IntKind.i64 v1.lo.e),((8:Nat),(3:Nat),At.bool v1.hi.neg),((8:Nat),(4:Nat),At.words false v1.hi.xs),((8:Nat),(5:Nat),At.int IntKind.i64 v1.hi.e)] 14)))∧              (((0:Int)≤1∧(1:Int)<(↑(3:Nat):Int))∧                  (Dx.Sm 68719476736 c∧Dx.Sm 68719476736 v1.lo)∧                    br (ltI (cmpD c v1.lo) 0)                       ((Dx.Sm 68719476736 c∧Dx.Sm 68719476736 v1.hi)∧                        br (ltI 0 (cmpD c v1.hi)) (inR ((1:Int)+1)∧true=true∧Sg.mk [((14:Nat),Tv.sv (Sv.one (At.rows false 3 3 (At.bool b.neg :: At.words false b.xs :: At.int IntKind.i64 b.e :: ivL false (Vx.mk c d))))),((15:Nat),Tv.sv (Sv.one (At.int IntKind.i64 (↑(3:Nat):Int)))),((16:Nat),Tv.sv (Sv.one (At.int IntKind.i64 ((1:Int)+1)))),((3:Nat),Tv.sv (Sv.one (At.ptr 8 0))),((2:Nat),Tv.sv (Sv.one (At.ptr 0 0)))] [((0:Nat),(0:Nat),At.bool false),((0:Nat),(1:Nat),At.words true []),((0:Nat),(2:Nat),At.int IntKind.i64 0),((0:Nat),(3:Nat),At.bool false),((0:Nat),(4:Nat),At.words true []),((0:Nat),(5:Nat),At.int IntKind.i64 0),((8:Nat),(0:Nat),At.bool c.neg),((8:Nat),(1:Nat),At.words false c.xs),((8:Nat),(2:Nat),At.int IntKind.i64 c.e),((8:Nat),(3:Nat),At.bool c.neg),((8:Nat),(4:Nat),At.words false c.xs),((8:Nat),(5:Nat),At.int IntKind.i64 c.e)] 14=Sg.mk [((14:Nat),Tv.sv (Sv.one (At.rows false 3 3 (At.bool b.neg :: At.words false b.xs :: At.int IntKind.i64 b.e :: ivL false (Vx.mk c d))))),((15:Nat),Tv.sv (Sv.one (At.int IntKind.i64 (↑(3:Nat):Int)))),((16:Nat),Tv.sv (Sv.one (At.int IntKind.i64 2))),((3:Nat),Tv.sv (Sv.one (At.ptr 8 0))),((2:Nat),Tv.sv (Sv.one (At.ptr 0 0)))] [((0:Nat),(0:Nat),At.bool false),((0:Nat),(1:Nat),At.words true []),((0:Nat),(2:Nat),At.int IntKind.i64 0),((0:Nat),(3:Nat),At.bool false),((0:Nat),(4:Nat),At.words true []),((0:Nat),(5:Nat),At.int IntKind.i64 0),((8:Nat),(0:Nat),At.bool v2.lo.neg),((8:Nat),(1:Nat),At.words false v2.lo.xs),((8:Nat),(2:Nat),At.int IntKind.i64 v2.lo.e),((8:Nat),(3:Nat),At.bool v2.hi.neg),((8:Nat),(4:Nat),At.words false v2.hi.xs),((8:Nat),(5:Nat),At.int IntKind.i64 v2.hi.e)] 14)                           (inR ((1:Int)+1)∧true=true∧Sg.mk [((14:Nat),Tv.sv (Sv.one (At.rows false 3 3 (At.bool b.neg :: At.words false b.xs :: At.int IntKind.i64 b.e :: ivL false (Vx.mk c d))))),((15:Nat),Tv.sv (Sv.one (At.int IntKind.i64 (↑(3:Nat):Int)))),((16:Nat),Tv.sv (Sv.one (At.int IntKind.i64 ((1:Int)+1)))),((3:Nat),Tv.sv (Sv.one (At.ptr 8 0))),((2:Nat),Tv.sv (Sv.one (At.ptr 0 0)))] [((0:Nat),(0:Nat),At.bool false),((0:Nat),(1:Nat),At.words true []),((0:Nat),(2:Nat),At.int IntKind.i64 0),((0:Nat),(3:Nat),At.bool false),((0:Nat),(4:Nat),At.words true []),((0:Nat),(5:Nat),At.int IntKind.i64 0),((8:Nat),(0:Nat),At.bool c.neg),((8:Nat),(1:Nat),At.words false c.xs),((8:Nat),(2:Nat),At.int IntKind.i64 c.e),((8:Nat),(3:Nat),At.bool v1.hi.neg),((8:Nat),(4:Nat),At.words false v1.hi.xs),((8:Nat),(5:Nat),At.int IntKind.i64 v1.hi.e)] 14=Sg.mk [((14:Nat),Tv.sv (Sv.one (At.rows false 3 3 (At.bool b.neg :: At.words false b.xs :: At.int IntKind.i64 b.e :: ivL false (Vx.mk c d))))),((15:Nat),Tv.sv (Sv.one (At.int IntKind.i64 (↑(3:Nat):Int)))),((16:Nat),Tv.sv (Sv.one (At.int IntKind.i64 2))),((3:Nat),Tv.sv (Sv.one (At.ptr 8 0))),((2:Nat),Tv.sv (Sv.one (At.ptr 0 0)))] [((0:Nat),(0:Nat),At.bool false),((0:Nat),(1:Nat),At.words true []),((0:Nat),(2:Nat),At.int IntKind.i64 0),((0:Nat),(3:Nat),At.bool false),((0:Nat),(4:Nat),At.words true []),((0:Nat),(5:Nat),At.int IntKind.i64 0),((8:Nat),(0:Nat),At.bool v2.lo.neg),((8:Nat),(1:Nat),At.words false v2.lo.xs),((8:Nat),(2:Nat),At.int IntKind.i64 v2.lo.e),((8:Nat),(3:Nat),At.bool v2.hi.neg),((8:Nat),(4:Nat),At.words false v2.hi.xs),((8:Nat),(5:Nat),At.int IntKind.i64 v2.hi.e)] 14))                       ((Dx.Sm 68719476736 c∧Dx.Sm 68719476736 v1.hi)∧                        br (ltI 0 (cmpD c v1.hi)) (inR ((1:Int)+1)∧true=true∧Sg.mk [((14:Nat),Tv.sv (Sv.one (At.rows false 3 3 (At.bool b.neg :: At.words false b.xs :: At.int IntKind.i64 b.e :: ivL false (Vx.mk c d))))),((15:Nat),Tv.sv (Sv.one (At.int IntKind.i64 (↑(3:Nat):Int)))),((16:Nat),Tv.sv (Sv.one (At.int IntKind.i64 ((1:Int)+1)))),((3:Nat),Tv.sv (Sv.one (At.ptr 8 0))),((2:Nat),Tv.sv (Sv.one (At.ptr 0 0)))] [((0:Nat),(0:Nat),At.bool false),((0:Nat),(1:Nat),At.words true []),((0:Nat),(2:Nat),At.int IntKind.i64 0),((0:Nat),(3:Nat),At.bool false),((0:Nat),(4:Nat),At.words true []),((0:Nat),(5:Nat),At.int IntKind.i64 0),((8:Nat),(0:Nat),At.bool v1.lo.neg),((8:Nat),(1:Nat),At.words false v1.lo.xs),((8:Nat),(2:Nat),At.int IntKind.i64 v1.lo.e),((8:Nat),(3:Nat),At.bool c.neg),((8:Nat),(4:Nat),At.words false c.xs),((8:Nat),(5:Nat),At.int IntKind.i64 c.e)] 14=Sg.mk [((14:Nat),Tv.sv (Sv.one (At.rows false 3 3 (At.bool b.neg :: At.words false b.xs :: At.int IntKind.i64 b.e :: ivL false (Vx.mk c d))))),((15:Nat),Tv.sv (Sv.one (At.int IntKind.i64 (↑(3:Nat):Int)))),((16:Nat),Tv.sv (Sv.one (At.int IntKind.i64 2))),((3:Nat),Tv.sv (Sv.one (At.ptr 8 0))),((2:Nat),Tv.sv (Sv.one (At.ptr 0 0)))] [((0:Nat),(0:Nat),At.bool false),((0:Nat),(1:Nat),At.words true []),((0:Nat),(2:Nat),At.int IntKind.i64 0),((0:Nat),(3:Nat),At.bool false),((0:Nat),(4:Nat),At.words true []),((0:Nat),(5:Nat),At.int IntKind.i64 0),((8:Nat),(0:Nat),At.bool v2.lo.neg),((8:Nat),(1:Nat),At.words false v2.lo.xs),((8:Nat),(2:Nat),At.int IntKind.i64 v2.lo.e),((8:Nat),(3:Nat),At.bool v2.hi.neg),((8:Nat),(4:Nat),At.words false v2.hi.xs),((8:Nat),(5:Nat),At.int IntKind.i64 v2.hi.e)] 14)                           (inR ((1:Int)+1)∧true=true∧Sg.mk [((14:Nat),Tv.sv (Sv.one (At.rows false 3 3 (At.bool b.neg :: At.words false b.xs :: At.int IntKind.i64 b.e :: ivL false (Vx.mk c d))))),((15:Nat),Tv.sv (Sv.one (At.int IntKind.i64 (↑(3:Nat):Int)))),((16:Nat),Tv.sv (Sv.one (At.int IntKind.i64 ((1:Int)+1)))),((3:Nat),Tv.sv (Sv.one (At.ptr 8 0))),((2:Nat),Tv.sv (Sv.one (At.ptr 0 0)))] [((0:Nat),(0:Nat),At.bool false),((0:Nat),(1:Nat),At.words true []),((0:Nat),(2:Nat),At.int IntKind.i64 0),((0:Nat),(3:Nat),At.bool false),((0:Nat),(4:Nat),At.words true []),((0:Nat),(5:Nat),At.int IntKind.i64 0),((8:Nat),(0:Nat),At.bool v1.lo.neg),((8:Nat),(1:Nat),At.words false v1.lo.xs),((8:Nat),(2:Nat),At.int IntKind.i64 v1.lo.e),((8:Nat),(3:Nat),At.bool v1.hi.neg),((8:Nat),(4:Nat),At.words false v1.hi.xs),((8:Nat),(5:Nat),At.int IntKind.i64 v1.hi.e)] 14=Sg.mk [((14:Nat),Tv.sv (Sv.one (At.rows false 3 3 (At.bool b.neg :: At.words false b.xs :: At.int IntKind.i64 b.e :: ivL false (Vx.mk c d))))),((15:Nat),Tv.sv (Sv.one (At.int IntKind.i64 (↑(3:Nat):Int)))),((16:Nat),Tv.sv (Sv.one (At.int IntKind.i64 2))),((3:Nat),Tv.sv (Sv.one (At.ptr 8 0))),((2:Nat),Tv.sv (Sv.one (At.ptr 0 0)))] [((0:Nat),(0:Nat),At.bool false),((0:Nat),(1:Nat),At.words true []),((0:Nat),(2:Nat),At.int IntKind.i64 0),((0:Nat),(3:Nat),At.bool false),((0:Nat),(4:Nat),At.words true []),((0:Nat),(5:Nat),At.int IntKind.i64 0),((8:Nat),(0:Nat),At.bool v2.lo.neg),((8:Nat),(1:Nat),At.words false v2.lo.xs),((8:Nat),(2:Nat),At.int IntKind.i64 v2.lo.e),((8:Nat),(3:Nat),At.bool v2.hi.neg),((8:Nat),(4:Nat),At.words false v2.hi.xs),((8:Nat),(5:Nat),At.int IntKind.i64 v2.hi.e)] 14)))∧                (((0:Int)≤2∧(2:Int)<(↑(3:Nat):Int))∧                    (Dx.Sm 68719476736 d∧Dx.Sm 68719476736 v2.lo)∧                      br (ltI (cmpD d v2.lo) 0)                         ((Dx.Sm 68719476736 d∧Dx.Sm 68719476736 v2.hi)∧                          br (ltI 0 (cmpD d v2.hi)) (inR ((2:Int)+1)∧true=true∧Sg.mk [((14:Nat),Tv.sv (Sv.one (At.rows false 3 3 (At.bool b.neg :: At.words false b.xs :: At.int IntKind.i64 b.e :: ivL false (Vx.mk c d))))),((15:Nat),Tv.sv (Sv.one (At.int IntKind.i64 (↑(3:Nat):Int)))),((16:Nat),Tv.sv (Sv.one (At.int IntKind.i64 ((2:Int)+1)))),((3:Nat),Tv.sv (Sv.one (At.ptr 8 0))),((2:Nat),Tv.sv (Sv.one (At.ptr 0 0)))] [((0:Nat),(0:Nat),At.bool false),((0:Nat),(1:Nat),At.words true []),((0:Nat),(2:Nat),At.int IntKind.i64 0),((0:Nat),(3:Nat),At.bool false),((0:Nat),(4:Nat),At.words true []),((0:Nat),(5:Nat),At.int IntKind.i64 0),((8:Nat),(0:Nat),At.bool d.neg),((8:Nat),(1:Nat),At.words false d.xs),((8:Nat),(2:Nat),At.int IntKind.i64 d.e),((8:Nat),(3:Nat),At.bool d.neg),((8:Nat),(4:Nat),At.words false d.xs),((8:Nat),(5:Nat),At.int IntKind.i64 d.e)] 14=Sg.mk [((14:Nat),Tv.sv (Sv.one (At.rows false 3 3 (At.bool b.neg :: At.words false b.xs :: At.int IntKind.i64 b.e :: ivL false (Vx.mk c d))))),((15:Nat),Tv.sv (Sv.one (At.int IntKind.i64 (↑(3:Nat):Int)))),((16:Nat),Tv.sv (Sv.one (At.int IntKind.i64 3))),((3:Nat),Tv.sv (Sv.one (At.ptr 8 0))),((2:Nat),Tv.sv (Sv.one (At.ptr 0 0)))] [((0:Nat),(0:Nat),At.bool false),((0:Nat),(1:Nat),At.words true []),((0:Nat),(2:Nat),At.int IntKind.i64 0),((0:Nat),(3:Nat),At.bool false),((0:Nat),(4:Nat),At.words true []),((0:Nat),(5:Nat),At.int IntKind.i64 0),((8:Nat),(0:Nat),At.bool v3.lo.neg),((8:Nat),(1:Nat),At.words false v3.lo.xs),((8:Nat),(2:Nat),At.int IntKind.i64 v3.lo.e),((8:Nat),(3:Nat),At.bool v3.hi.neg),((8:Nat),(4:Nat),At.words false v3.hi.xs),((8:Nat),(5:Nat),At.int IntKind.i64 v3.hi.e)] 14)                             (inR ((2:Int)+1)∧true=true∧Sg.mk [((14:Nat),Tv.sv (Sv.one (At.rows false 3 3 (At.bool b.neg :: At.words false b.xs :: At.int IntKind.i64 b.e :: ivL false (Vx.mk c d))))),((15:Nat),Tv.sv (Sv.one (At.int IntKind.i64 (↑(3:Nat):Int)))),((16:Nat),Tv.sv (Sv.one (At.int IntKind.i64 ((2:Int)+1)))),((3:Nat),Tv.sv (Sv.one (At.ptr 8 0))),((2:Nat),Tv.sv (Sv.one (At.ptr 0 0)))] [((0:Nat),(0:Nat),At.bool false),((0:Nat),(1:Nat),At.words true []),((0:Nat),(2:Nat),At.int IntKind.i64 0),((0:Nat),(3:Nat),At.bool false),((0:Nat),(4:Nat),At.words true []),((0:Nat),(5:Nat),At.int IntKind.i64 0),((8:Nat),(0:Nat),At.bool d.neg),((8:Nat),(1:Nat),At.words false d.xs),((8:Nat),(2:Nat),At.int IntKind.i64 d.e),((8:Nat),(3:Nat),At.bool v2.hi.neg),((8:Nat),(4:Nat),At.words false v2.hi.xs),((8:Nat),(5:Nat),At.int IntKind.i64 v2.hi.e)] 14=Sg.mk [((14:Nat),Tv.sv (Sv.one (At.rows false 3 3 (At.bool b.neg :: At.words false b.xs :: At.int IntKind.i64 b.e :: ivL false (Vx.mk c d))))),((15:Nat),Tv.sv (Sv.one (At.int IntKind.i64 (↑(3:Nat):Int)))),((16:Nat),Tv.sv (Sv.one (At.int IntKind.i64 3))),((3:Nat),Tv.sv (Sv.one (At.ptr 8 0))),((2:Nat),Tv.sv (Sv.one (At.ptr 0 0)))] [((0:Nat),(0:Nat),At.bool false),((0:Nat),(1:Nat),At.words true []),((0:Nat),(2:Nat),At.int IntKind.i64 0),((0:Nat),(3:Nat),At.bool false),((0:Nat),(4:Nat),At.words true []),((0:Nat),(5:Nat),At.int IntKind.i64 0),((8:Nat),(0:Nat),At.bool v3.lo.neg),((8:Nat),(1:Nat),At.words false v3.lo.xs),((8:Nat),(2:Nat),At.int IntKind.i64 v3.lo.e),((8:Nat),(3:Nat),At.bool v3.hi.neg),((8:Nat),(4:Nat),At.words false v3.hi.xs),((8:Nat),(5:Nat),At.int IntKind.i64 v3.hi.e)] 14))                         ((Dx.Sm 68719476736 d∧Dx.Sm 68719476736 v2.hi)∧                          br (ltI 0 (cmpD d v2.hi)) (inR ((2:Int)+1)∧true=true∧Sg.mk [((14:Nat),Tv.sv (Sv.one (At.rows false 3 3 (At.bool b.neg :: At.words false b.xs :: At.int IntKind.i64 b.e :: ivL false (Vx.mk c d))))),((15:Nat),Tv.sv (Sv.one (At.int IntKind.i64 (↑(3:Nat):Int)))),((16:Nat),Tv.sv (Sv.one (At.int IntKind.i64 ((2:Int)+1)))),((3:Nat),Tv.sv (Sv.one (At.ptr 8 0))),((2:Nat),Tv.sv (Sv.one (At.ptr 0 0)))] [((0:Nat),(0:Nat),At.bool false),((0:Nat),(1:Nat),At.words true []),((0:Nat),(2:Nat),At.int IntKind.i64 0),((0:Nat),(3:Nat),At.bool false),((0:Nat),(4:Nat),At.words true []),((0:Nat),(5:Nat),At.int IntKind.i64 0),((8:Nat),(0:Nat),At.bool v2.lo.neg),((8:Nat),(1:Nat),At.words false v2.lo.xs),((8:Nat),(2:Nat),At.int IntKind.i64 v2.lo.e),((8:Nat),(3:Nat),At.bool d.neg),((8:Nat),(4:Nat),At.words false d.xs),((8:Nat),(5:Nat),At.int IntKind.i64 d.e)] 14=Sg.mk [((14:Nat),Tv.sv (Sv.one (At.rows false 3 3 (At.bool b.neg :: At.words false b.xs :: At.int IntKind.i64 b.e :: ivL false (Vx.mk c d))))),((15:Nat),Tv.sv (Sv.one (At.int IntKind.i64 (↑(3:Nat):Int)))),((16:Nat),Tv.sv (Sv.one (At.int IntKind.i64 3))),((3:Nat),Tv.sv (Sv.one (At.ptr 8 0))),((2:Nat),Tv.sv (Sv.one (At.ptr 0 0)))] [((0:Nat),(0:Nat),At.bool false),((0:Nat),(1:Nat),At.words true []),((0:Nat),(2:Nat),At.int IntKind.i64 0),((0:Nat),(3:Nat),At.bool false),((0:Nat),(4:Nat),At.words true []),((0:Nat),(5:Nat),At.int IntKind.i64 0),((8:Nat),(0:Nat),At.bool v3.lo.neg),((8:Nat),(1:Nat),At.words false v3.lo.xs),((8:Nat),(2:Nat),At.int IntKind.i64 v3.lo.e),((8:Nat),(3:Nat),At.bool v3.hi.neg),((8:Nat),(4:Nat),At.words false v3.hi.xs),((8:Nat),(5:Nat),At.int IntKind.i64 v3.hi.e)] 14)                             (inR ((2:Int)+1)∧true=true∧Sg.mk [((14:Nat),Tv.sv (Sv.one (At.rows false 3 3 (At.bool b.neg :: At.words false b.xs :: At.int IntKind.i64 b.e :: ivL false (Vx.mk c d))))),((15:Nat),Tv.sv (Sv.one (At.int IntKind.i64 (↑(3:Nat):Int)))),((16:Nat),Tv.sv (Sv.one (At.int IntKind.i64 ((2:Int)+1)))),((3:Nat),Tv.sv (Sv.one (At.ptr 8 0))),((2:Nat),Tv.sv (Sv.one (At.ptr 0 0)))] [((0:Nat),(0:Nat),At.bool false),((0:Nat),(1:Nat),At.words true []),((0:Nat),(2:Nat),At.int IntKind.i64 0),((0:Nat),(3:Nat),At.bool false),((0:Nat),(4:Nat),At.words true []),((0:Nat),(5:Nat),At.int IntKind.i64 0),((8:Nat),(0:Nat),At.bool v2.lo.neg),((8:Nat),(1:Nat),At.words false v2.lo.xs),((8:Nat),(2:Nat),At.int IntKind.i64 v2.lo.e),((8:Nat),(3:Nat),At.bool v2.hi.neg),((8:Nat),(4:Nat),At.words false v2.hi.xs),((8:Nat),(5:Nat),At.int IntKind.i64 v2.hi.e)] 14=Sg.mk [((14:Nat),Tv.sv (Sv.one (At.rows false 3 3 (At.bool b.neg :: At.words false b.xs :: At.int IntKind.i64 b.e :: ivL false (Vx.mk c d))))),((15:Nat),Tv.sv (Sv.one (At.int IntKind.i64 (↑(3:Nat):Int)))),((16:Nat),Tv.sv (Sv.one (At.int IntKind.i64 3))),((3:Nat),Tv.sv (Sv.one (At.ptr 8 0))),((2:Nat),Tv.sv (Sv.one (At.ptr 0 0)))] [((0:Nat),(0:Nat),At.bool false),((0:Nat),(1:Nat),At.words true []),((0:Nat),(2:Nat),At.int IntKind.i64 0),((0:Nat),(3:Nat),At.bool false),((0:Nat),(4:Nat),At.words true []),((0:Nat),(5:Nat),At.int IntKind.i64 0),((8:Nat),(0:Nat),At.bool v3.lo.neg),((8:Nat),(1:Nat),At.words false v3.lo.xs),((8:Nat),(2:Nat),At.int IntKind.i64 v3.lo.e),((8:Nat),(3:Nat),At.bool v3.hi.neg),((8:Nat),(4:Nat),At.words false v3.hi.xs),((8:Nat),(5:Nat),At.int IntKind.i64 v3.hi.e)] 14)))∧                  Q (Tv.sv (Sv.agg (ivL false v3)))∧True):=by kernel_rfl
theorem spanS_rounds{v:Vx}{d:Dx}{p:Vx→Prop}{A:Prop}{N:Nat}(A1:A)(hv:v.Sm N)(hd:d.Sm N)(hN:N≤68719476736)(h:A→p (spanS v d)){q1 q2 q3 q4:Prop}(h1:p ⟨d,d⟩→q1)(h2:p ⟨d,v.hi⟩→q2)(h3:p ⟨v.lo,d⟩→q3)(h4:p v→q4) :
    (Dx.Sm 68719476736 d∧Dx.Sm 68719476736 v.lo)∧br (ltI (cmpD d v.lo) 0) ((Dx.Sm 68719476736 d∧Dx.Sm 68719476736 v.hi)∧br (ltI 0 (cmpD d v.hi)) q1 q2) ((Dx.Sm 68719476736 d∧Dx.Sm 68719476736 v.hi)∧br (ltI 0 (cmpD d v.hi)) q3 q4):=by
  have k:=h A1
  refine ⟨⟨hd.mono hN,hv.1.mono hN⟩,br_intro (fun e1=>⟨⟨hd.mono hN,hv.2.mono hN⟩,br_intro (fun e2=>h1 ?_) fun e2=>h2 ?_⟩) fun e1=>⟨⟨hd.mono hN,hv.2.mono hN⟩,br_intro (fun e2=>h3 ?_) fun e2=>h4 ?_⟩⟩
  · rwa [spanS,if_pos (ltI_true.1 e1),if_pos (ltI_true.1 e2)] at k
  · rwa [spanS,if_pos (ltI_true.1 e1),if_neg (ltI_false.1 e2)] at k
  · rwa [spanS,if_neg (ltI_false.1 e1),if_pos (ltI_true.1 e2)] at k
  · rwa [spanS,if_neg (ltI_false.1 e1),if_neg (ltI_false.1 e2)] at k
def rSpan:Spec:=fun l=>match l with
  | [.one (.rows false 3 2 [.bool n1,.words false x1,.int .i64 e1,.bool n2,.words false x2,.int .i64 e2])] =>
    (some (Dx.Sm 68719476736 ⟨n1,x1,e1⟩∧Dx.Sm 68719476736 ⟨n2,x2,e2⟩),vF (spanL ⟨n1,x1,e1⟩ [⟨n2,x2,e2⟩]))
  | [.one (.rows false 3 4 [.bool n1,.words false x1,.int .i64 e1,.bool n2,.words false x2,.int .i64 e2,.bool n3,.words false x3,.int .i64 e3,.bool n4,.words false x4,.int .i64 e4])] =>
    (some (Dx.Sm 68719476736 ⟨n1,x1,e1⟩∧Dx.Sm 68719476736 ⟨n2,x2,e2⟩∧Dx.Sm 68719476736 ⟨n3,x3,e3⟩∧Dx.Sm 68719476736 ⟨n4,x4,e4⟩),vF (spanL ⟨n1,x1,e1⟩ [⟨n2,x2,e2⟩,⟨n3,x3,e3⟩,⟨n4,x4,e4⟩]))
  | _=>noSpec
theorem rSpan_ok:SpecOk Tryz.prog 57 rSpan :=
  specOk_at (envOk tys_ok sRaw4_ok) mixed Tryz.func57 rfl (by decide) 1 (by decide) fun l p t e hp=>by
    unfold rSpan at e
    split at e
    · rename_i n1 x1 e1 n2 x2 e2
      cases e
      obtain ⟨s1,s2⟩:=hp
      refine ⟨Nat.le_refl 1,_,0,(rSpan2_vc ⟨n1,x1,e1⟩ ⟨n2,x2,e2⟩ _).mpr ?_⟩
      refine ⟨⟨by omega,by omega⟩,⟨by omega,by omega⟩,rfl,⟨by omega,by omega⟩,rfl,rfl,⟨⟨by omega,by omega⟩,?_⟩,rfl,trivial⟩
      refine spanS_rounds (p:=fun v=>spanS ⟨⟨n1,x1,e1⟩,⟨n1,x1,e1⟩⟩ ⟨n2,x2,e2⟩=v) trivial ⟨s1,s1⟩ s2 (by omega) (fun _=>rfl) ?_ ?_ ?_ ?_<;>exact fun e=>⟨⟨by omega,by omega⟩,rfl,by rw [e];rfl⟩
    · rename_i n1 x1 e1 n2 x2 e2 n3 x3 e3 n4 x4 e4
      cases e
      obtain ⟨s1,s2,s3,s4⟩:=hp
      refine ⟨Nat.le_refl 1,_,0,(rSpan4_vc ⟨n1,x1,e1⟩ ⟨n2,x2,e2⟩ ⟨n3,x3,e3⟩ ⟨n4,x4,e4⟩ (spanL ⟨n1,x1,e1⟩ [⟨n2,x2,e2⟩]) (spanL ⟨n1,x1,e1⟩ [⟨n2,x2,e2⟩,⟨n3,x3,e3⟩]) (spanL ⟨n1,x1,e1⟩ [⟨n2,x2,e2⟩,⟨n3,x3,e3⟩,⟨n4,x4,e4⟩]) _).mpr ?_⟩
      have t2:Vx.Sm 68719476736 (spanL ⟨n1,x1,e1⟩ [⟨n2,x2,e2⟩]):=spanS_sm ⟨s1,s1⟩ s2
      have t3:Vx.Sm 68719476736 (spanL ⟨n1,x1,e1⟩ [⟨n2,x2,e2⟩,⟨n3,x3,e3⟩]):=spanS_sm t2 s3
      refine ⟨⟨by omega,by omega⟩,⟨by omega,by omega⟩,rfl,⟨by omega,by omega⟩,rfl,rfl,⟨⟨by omega,by omega⟩,?_⟩,⟨⟨by omega,by omega⟩,?_⟩,⟨⟨by omega,by omega⟩,?_⟩,rfl,trivial⟩
      · refine spanS_rounds (p:=fun v=>spanL ⟨n1,x1,e1⟩ [⟨n2,x2,e2⟩]=v) trivial ⟨s1,s1⟩ s2 (by omega) (fun _=>rfl) ?_ ?_ ?_ ?_<;>exact fun e=>⟨⟨by omega,by omega⟩,rfl,by rw [e];rfl⟩
      · refine spanS_rounds (p:=fun v=>spanL ⟨n1,x1,e1⟩ [⟨n2,x2,e2⟩,⟨n3,x3,e3⟩]=v) trivial t2 s3 (by omega) (fun _=>rfl) ?_ ?_ ?_ ?_<;>exact fun e=>⟨⟨by omega,by omega⟩,rfl,by rw [e];rfl⟩
      · refine spanS_rounds (p:=fun v=>spanL ⟨n1,x1,e1⟩ [⟨n2,x2,e2⟩,⟨n3,x3,e3⟩,⟨n4,x4,e4⟩]=v) trivial t3 s4 (by omega) (fun _=>rfl) ?_ ?_ ?_ ?_<;>exact fun e=>⟨⟨by omega,by omega⟩,rfl,by rw [e];rfl⟩
    · cases e;exact hp.elim
theorem mkD_p{neg:Bool}{m e:Int}:0≤(mkD neg m e).m:=val_nonneg (mkD_words _ _ _)
theorem mkS_p{s e:Int}:0≤(mkS s e).m:=mkD_p
theorem oneD_p{d:Dx}:0≤(oneD d).m:=mkD_p
theorem negD_p{d:Dx}:0≤(negD d).m:=mkD_p
theorem plusX_p{a b:Dx}(ha:0≤a.m)(hb:0≤b.m):0≤(plusX a b).m:=by
  unfold plusX
  split
  · exact hb
  · split
    · exact ha
    · exact mkS_p
theorem plusD_p{a b:Dx}:0≤(plusD a b).m:=plusX_p oneD_p oneD_p
theorem lessD_p{a b:Dx}:0≤(lessD a b).m:=plusD_p
theorem timesD_sm{a b:Dx}{N M:Nat}(ha:0≤a.m)(hb:0≤b.m)(sa:a.Sm N)(sb:b.Sm M):(timesD a b).Sm (N+M+(N+M)):=by
  obtain ⟨s1,s2,s3⟩:=sa
  obtain ⟨s4,s5,s6⟩:=sb
  have:=blen_mul ha hb
  exact mkD_sm (Int.mul_nonneg ha hb) (by omega) (by omega) (by omega)
theorem blen_natAbs_add{X Y:Int}{N:Nat}(h1:blen (X.natAbs:Int)≤N)(h2:blen (Y.natAbs:Int)≤N):blen ((X+Y).natAbs:Int)≤N+1:=by
  refine blen_le ?_
  have e1:=blen_lt (X.natAbs:Int)
  have e2:=blen_lt (Y.natAbs:Int)
  have f1:(2:Int)^blen (X.natAbs:Int)≤2^N:=two_pow_le h1
  have f2:(2:Int)^blen (Y.natAbs:Int)≤2^N:=two_pow_le h2
  rw [Int.pow_succ];omega
theorem mkS_sm{s e:Int}{N M:Nat}(hb:blen (s.natAbs:Int)≤N)(e0:-(M:Int)≤e)(e1:e≤M):(mkS s e).Sm (N+M):=mkD_sm (by omega) hb e0 e1
theorem sm_abs{d:Dx}(h:0≤d.m)(k:Nat):((d.sm*2^k).natAbs:Int)=d.m*2^k:=by
  have:=two_pow_pos k
  have h1:0≤d.m*2^k:=Int.mul_nonneg h (by omega)
  unfold Dx.sm;rw [sm_mul];split<;>omega
theorem plusX_sm{x y:Dx}{N:Nat}(hx:0≤x.m)(hy:0≤y.m)(sx:x.Sm N)(sy:y.Sm N):(plusX x y).Sm (3*N+1+N):=by
  unfold plusX
  split
  · exact sy.mono (by omega)
  · split
    · exact sx.mono (by omega)
    · obtain ⟨s1,s2,s3⟩:=sx
      obtain ⟨s4,s5,s6⟩:=sy
      refine mkS_sm (blen_natAbs_add ?_ ?_) (by omega) (by omega)
      · rw [sm_abs hx,blen_mul_pow (by omega)];omega
      · rw [sm_abs hy,blen_mul_pow (by omega)];omega
theorem plusD_sm{x y:Dx}{N:Nat}(hx:0≤x.m)(hy:0≤y.m)(sx:x.Sm N)(sy:y.Sm N):(plusD x y).Sm (8*N+1) :=
  (plusX_sm oneD_p oneD_p (one_sm hx sx) (one_sm hy sy)).mono (by omega)
theorem cutX_sm{x:Dx}{N:Nat}{p:Int}{up:Bool}(hx:0≤x.m)(sx:x.Sm N)(hp:0≤p):(cutX x p up).Sm (3*N+1):=by
  unfold cutX
  split
  · exact sx.mono (by omega)
  · obtain ⟨s1,s2,s3⟩:=sx
    have q0:0≤x.m/2^((blen x.m:Int)-p).toNat:=Int.ediv_nonneg hx (Int.le_of_lt (two_pow_pos _))
    have q1:=blen_mono (m:=x.m/2^((blen x.m:Int)-p).toNat) (n:=x.m) (Int.ediv_le_self _ hx)
    refine (mkD_sm (N:=N+1) (M:=N+N) ?_ ?_ (by omega) (by omega)).mono (by omega)
    · split<;>omega
    · have:=blen_lt (x.m/2^((blen x.m:Int)-p).toNat)
      have f1:(2:Int)^blen (x.m/2^((blen x.m:Int)-p).toNat)≤2^N:=two_pow_le (by omega)
      have f2:=two_pow_pos N
      refine blen_le ?_
      rw [Int.pow_succ];split<;>omega
theorem cutD_sm{x:Dx}{N:Nat}{p:Int}{up:Bool}(hx:0≤x.m)(sx:x.Sm N)(hp:0≤p):(cutD x p up).Sm (6*N+1):=(cutX_sm oneD_p (one_sm hx sx) hp).mono (by omega)
theorem overD_sm{a b:Dx}{N:Nat}{p:Int}{up:Bool}(ha:0≤a.m)(hb:0≤b.m)(sa:a.Sm N)(sb:b.Sm N)(p0:0≤p)(p1:p≤N):(overD a b p up).Sm (100*N+100):=by
  unfold overD overX
  have m1:=oneD_p (d:=a)
  have m2:=oneD_p (d:=b)
  obtain ⟨s1,s2,s3⟩:=one_sm ha sa
  obtain ⟨s4,s5,s6⟩:=one_sm hb sb
  generalize oneD a=x at *
  generalize oneD b=y at *
  split
  · exact ⟨by show blen 0≤_;simp [blen],by show _≤(0:Int);omega,by show (0:Int)≤_;omega⟩
  · rename_i hx0
    generalize hk:max (p+2+(blen y.m:Int)-(blen x.m:Int)) 0=k
    have k0:0≤k:=by omega
    have hM:0≤x.m*2^k.toNat:=Int.mul_nonneg m1 (by have:=two_pow_pos k.toNat;omega)
    have hMb:blen (x.m*2^k.toNat)≤5*N+2:=by rw [blen_mul_pow (by omega)];omega
    have hQ:0≤x.m*2^k.toNat/y.m:=Int.ediv_nonneg hM m2
    have hQb:=blen_mono (m:=x.m*2^k.toNat/y.m) (n:=x.m*2^k.toNat) (Int.ediv_le_self _ hM)
    obtain ⟨t1,t2⟩:=sticky_blen (b:=decide (x.m*2^k.toNat % y.m≠0)) hQ
    exact (cutD_sm (N:=13*N+10) mkD_p ((mkD_sm (N:=5*N+3) (M:=7*N+3) t1 (by omega) (by omega) (by omega)).mono (by omega)) p0).mono (by omega)
def Vx.P(v:Vx):Prop:=0≤v.lo.m∧0≤v.hi.m
theorem Vx.Sm.mono{N M:Nat}{v:Vx}(h:v.Sm N)(k:N≤M):v.Sm M:=⟨h.1.mono k,h.2.mono k⟩
theorem Vx.Wf.p{v:Vx}(h:v.Wf):v.P:=⟨h.1.m0,h.2.m0⟩
def trimV(v:Vx)(p:Int):Vx:=⟨cutD v.lo p false,cutD v.hi p true⟩
def turnV(v:Vx):Vx:=⟨negD v.hi,negD v.lo⟩
def rightV(v:Vx):Bool:=v.lo.fitsB && (v.hi.fitsB && decide (cmpD v.lo v.hi≤0))
def zeroV(v:Vx):Bool:=decide (v.lo.sgn≤0) && decide (0≤v.hi.sgn)
def sqrtV(v:Vx)(p:Int):Vx:=⟨rootD v.lo p false,rootD v.hi p true⟩
def sumV(v u:Vx):Vx:=⟨plusD v.lo u.lo,plusD v.hi u.hi⟩
def plusV(v u:Vx)(p:Int):Vx:=trimV (sumV v u) p
def lessV(v u:Vx)(p:Int):Vx:=plusV v (turnV u) p
def prodV(v u:Vx):Vx:=spanL (timesD v.lo u.lo) [timesD v.lo u.hi,timesD v.hi u.lo,timesD v.hi u.hi]
def timesV(v u:Vx)(p:Int):Vx:=trimV (prodV v u) p
def quoV(v u:Vx)(p:Int)(up:Bool):Vx:=spanL (overD v.lo u.lo p up) [overD v.lo u.hi p up,overD v.hi u.lo p up,overD v.hi u.hi p up]
def divV(v u:Vx)(p:Int):Vx:=⟨(quoV v u p false).lo,(quoV v u p true).hi⟩
theorem span4_sm{a b c d:Dx}{N:Nat}(ha:a.Sm N)(hb:b.Sm N)(hc:c.Sm N)(hd:d.Sm N):(spanL a [b,c,d]).Sm N:=spanS_sm (spanS_sm (spanS_sm ⟨ha,ha⟩ hb) hc) hd
theorem prodV_sm{v u:Vx}{N:Nat}(hv:v.P)(hu:u.P)(sv:v.Sm N)(su:u.Sm N):(prodV v u).Sm (N+N+(N+N)) :=
  span4_sm (timesD_sm hv.1 hu.1 sv.1 su.1) (timesD_sm hv.1 hu.2 sv.1 su.2) (timesD_sm hv.2 hu.1 sv.2 su.1) (timesD_sm hv.2 hu.2 sv.2 su.2)
def sRaw5:List (FuncId×Spec):=[(57,rSpan)] ++ sRaw4
theorem sRaw5_ok:SpecsOk Tryz.prog sRaw5:=⟨rSpan_ok,sRaw4_ok⟩
def eB(N:Int)(d:Dx):Prop:=-N≤d.e∧d.e≤N
def rTrim:Spec:=specK [.v,.i .i64] fun (v:Vx) (p:Int)=>(some (v.Sm 34359738368∧0≤p∧p≤1099511627776),vT (trimV v p))
theorem rTrim_vc(v:Vx)(p:Int)(Q:Tv→Prop):execF ⟨tys,sRaw5⟩ (fun _=>none) 0 Tryz.f53 [.agg (ivL false v),.one (.int .i64 p)] Q=((Dx.Sm 34359738368 v.lo∧(0:Int)≤p∧p≤1099511627776)∧(Dx.Sm 34359738368 v.hi∧(0:Int)≤p∧p≤1099511627776)∧true=true∧Q (Tv.sv (Sv.agg (ivL true (Vx.mk (cutD v.lo p false) (cutD v.hi p true)))))):=by kernel_rfl
theorem rTrim_ok:SpecOk Tryz.prog 53 rTrim :=
  specK_ok (envOk tys_ok sRaw5_ok) mixed Tryz.func53 rfl (by decide) (by decide) fun (v:Vx) _ (p:Int) _ hp=>⟨fun _=>none,0,(rTrim_vc v p _).mpr ⟨⟨hp.1.1,hp.2⟩,⟨hp.1.2,hp.2⟩,rfl,rfl⟩⟩
def rTurn:Spec:=specK [.v] fun (v:Vx)=>(some (eB 4611686018427387904 v.lo∧eB 4611686018427387904 v.hi),vT (turnV v))
theorem rTurn_vc(v:Vx)(Q:Tv→Prop):execF ⟨tys,sRaw5⟩ (fun _=>none) 0 Tryz.f56 [.agg (ivL false v)] Q=(((-4611686018427387904:Int)≤v.hi.e∧v.hi.e≤4611686018427387904)∧((-4611686018427387904:Int)≤v.lo.e∧v.lo.e≤4611686018427387904)∧true=true∧Q (Tv.sv (Sv.agg (ivL true (Vx.mk (negD v.hi) (negD v.lo)))))):=by kernel_rfl
theorem rTurn_ok:SpecOk Tryz.prog 56 rTurn :=
  specK_ok (envOk tys_ok sRaw5_ok) mixed Tryz.func56 rfl (by decide) (by decide) fun (v:Vx) _ hp=>⟨fun _=>none,0,(rTurn_vc v _).mpr ⟨hp.2,hp.1,rfl,rfl⟩⟩
theorem fits_sm{d:Dx}(h:d.fitsB=true):d.Sm 65536:=by
  unfold Dx.fitsB greatB at h
  simp at h
  obtain ⟨⟨h1,h2⟩,h3⟩:=h
  refine ⟨?_,by omega,by omega⟩
  by_cases hp:0<d.m
  · have:=blen_last hp
    have h2:=(words_ws d.m).nth ((ws d.m).length-1)
    have hb:blen (nth (ws d.m) ((ws d.m).length-1))≤64:=blen_le (by have:=h2.2;simp at this ⊢;omega)
    omega
  · have:blen d.m≤0:=blen_le (by show d.m<2^0;omega)
    omega
def rRight:Spec:=specK [.v] fun (v:Vx)=>(none,bT (rightV v))
theorem rRight_vc(v:Vx)(Q:Tv→Prop):execF ⟨tys,sRaw5⟩ (fun _=>none) 0 Tryz.f51 [.agg (ivL false v)] Q=(br (Dx.fitsB v.lo) (br (Dx.fitsB v.hi) ((Dx.Sm 68719476736 v.lo∧Dx.Sm 68719476736 v.hi)∧Q (Tv.sv (Sv.one (At.bool (leI (cmpD v.lo v.hi) 0))))) (Q (Tv.sv (Sv.one (At.bool false))))) (Q (Tv.sv (Sv.one (At.bool false))))):=by kernel_rfl
theorem rRight_ok:SpecOk Tryz.prog 51 rRight :=
  specK_ok (envOk tys_ok sRaw5_ok) mixed Tryz.func51 rfl (by decide) (by decide) fun (v:Vx) _ _=>⟨fun _=>none,0,by
    refine (rRight_vc v _).mpr (br_intro (fun h1=>br_intro (fun h2=>⟨⟨(fits_sm h1).mono (by omega),(fits_sm h2).mono (by omega)⟩,?_⟩) fun h2=>?_) fun h1=>?_)
    · show _=bT (rightV v);rw [rightV,h1,h2];rfl
    · show _=bT (rightV v);rw [rightV,h1,h2];rfl
    · show _=bT (rightV v);rw [rightV,h1];rfl⟩
def rHolds0:Spec:=specK [.v] fun (v:Vx)=>(none,bT (zeroV v))
theorem rHolds0_vc(v:Vx)(Q:Tv→Prop):execF ⟨tys,sRaw5⟩ (fun _=>none) 0 Tryz.f32 [.agg (ivL false v)] Q=(br (leI (Dx.sgn v.lo) 0) (Q (Tv.sv (Sv.one (At.bool (leI 0 (Dx.sgn v.hi)))))) (Q (Tv.sv (Sv.one (At.bool false))))):=by kernel_rfl
theorem rHolds0_ok:SpecOk Tryz.prog 32 rHolds0 :=
  specK_ok (envOk tys_ok sRaw5_ok) mixed Tryz.func32 rfl (by decide) (by decide) fun (v:Vx) _ _=>⟨fun _=>none,0,by
    refine (rHolds0_vc v _).mpr (br_intro (fun h1=>?_) fun h1=>?_)
    · show _=bT (zeroV v);rw [zeroV,show decide (v.lo.sgn≤0)=true from h1];rfl
    · show _=bT (zeroV v);rw [zeroV,show decide (v.lo.sgn≤0)=false from h1];rfl⟩
def rSqrt:Spec:=specK [.v,.i .i64] fun (v:Vx) (p:Int)=>(some (v.Sm 67108864∧0≤p∧p≤67108864),vT (sqrtV v p))
theorem rSqrt_vc(v:Vx)(p:Int)(Q:Tv→Prop):execF ⟨tys,sRaw5⟩ (fun _=>none) 0 Tryz.f37 [.agg (ivL false v),.one (.int .i64 p)] Q=((Dx.Sm 67108864 v.lo∧(0:Int)≤p∧p≤67108864)∧(Dx.Sm 67108864 v.hi∧(0:Int)≤p∧p≤67108864)∧true=true∧Q (Tv.sv (Sv.agg (ivL true (Vx.mk (rootD v.lo p false) (rootD v.hi p true)))))):=by kernel_rfl
theorem rSqrt_ok:SpecOk Tryz.prog 37 rSqrt :=
  specK_ok (envOk tys_ok sRaw5_ok) mixed Tryz.func37 rfl (by decide) (by decide) fun (v:Vx) _ (p:Int) _ hp=>⟨fun _=>none,0,(rSqrt_vc v p _).mpr ⟨⟨hp.1.1,hp.2⟩,⟨hp.1.2,hp.2⟩,rfl,rfl⟩⟩
def rDiv:Spec:=specK [.v,.v,.i .i64] fun (v:Vx) (u:Vx) (p:Int)=>(some (v.Sm 67108864∧u.Sm 67108864∧u.lo.m≠0∧u.hi.m≠0∧0≤p∧p≤67108864),vF (divV v u p))
theorem rDiv_vc(v u:Vx)(p:Int)(Q:Tv→Prop):execF ⟨tys,sRaw5⟩ (fun _=>none) 0 Tryz.f33 [.agg (ivL false v),.agg (ivL false u),.one (.int .i64 p)] Q=((Dx.Sm 67108864 v.lo∧Dx.Sm 67108864 u.lo∧Dx.m u.lo≠0∧(0:Int)≤p∧p≤67108864)∧(Dx.Sm 67108864 v.lo∧Dx.Sm 67108864 u.hi∧Dx.m u.hi≠0∧(0:Int)≤p∧p≤67108864)∧(Dx.Sm 67108864 v.hi∧Dx.Sm 67108864 u.lo∧Dx.m u.lo≠0∧(0:Int)≤p∧p≤67108864)∧(Dx.Sm 67108864 v.hi∧Dx.Sm 67108864 u.hi∧Dx.m u.hi≠0∧(0:Int)≤p∧p≤67108864)∧(Dx.Sm 68719476736 (overD v.lo u.lo p false)∧Dx.Sm 68719476736 (overD v.lo u.hi p false)∧Dx.Sm 68719476736 (overD v.hi u.lo p false)∧Dx.Sm 68719476736 (overD v.hi u.hi p false))∧true=true∧(Dx.Sm 67108864 v.lo∧Dx.Sm 67108864 u.lo∧Dx.m u.lo≠0∧(0:Int)≤p∧p≤67108864)∧(Dx.Sm 67108864 v.lo∧Dx.Sm 67108864 u.hi∧Dx.m u.hi≠0∧(0:Int)≤p∧p≤67108864)∧(Dx.Sm 67108864 v.hi∧Dx.Sm 67108864 u.lo∧Dx.m u.lo≠0∧(0:Int)≤p∧p≤67108864)∧(Dx.Sm 67108864 v.hi∧Dx.Sm 67108864 u.hi∧Dx.m u.hi≠0∧(0:Int)≤p∧p≤67108864)∧(Dx.Sm 68719476736 (overD v.lo u.lo p true)∧Dx.Sm 68719476736 (overD v.lo u.hi p true)∧Dx.Sm 68719476736 (overD v.hi u.lo p true)∧Dx.Sm 68719476736 (overD v.hi u.hi p true))∧true=true∧Q (Tv.sv (Sv.agg (ivL false (Vx.mk (spanL (overD v.lo u.lo p false) [overD v.lo u.hi p false,overD v.hi u.lo p false,overD v.hi u.hi p false]).lo (spanL (overD v.lo u.lo p true) [overD v.lo u.hi p true,overD v.hi u.lo p true,overD v.hi u.hi p true]).hi))))):=by kernel_rfl
theorem rDiv_ok:SpecOk Tryz.prog 33 rDiv :=
  specK_ok (envOk tys_ok sRaw5_ok) mixed Tryz.func33 rfl (by decide) (by decide) fun (v:Vx) hv (u:Vx) hu (p:Int) _ hp=>⟨fun _=>none,0,by
    obtain ⟨⟨a1,a2⟩,⟨b1,b2⟩,z1,z2,p0,p1⟩:v.Sm 67108864∧u.Sm 67108864∧u.lo.m≠0∧u.hi.m≠0∧0≤p∧p≤67108864:=hp
    have v1:=Dx.Wf.m0 hv.1
    have v2:=Dx.Wf.m0 hv.2
    have u1:=Dx.Wf.m0 hu.1
    have u2:=Dx.Wf.m0 hu.2
    have sz:∀ {a b:Dx} {up:Bool},0≤a.m→0≤b.m→a.Sm 67108864→b.Sm 67108864→(overD a b p up).Sm 68719476736:=fun ha hb sa sb=>(overD_sm ha hb sa sb p0 p1).mono (by omega)
    refine (rDiv_vc v u p _).mpr ⟨⟨a1,b1,z1,p0,p1⟩,⟨a1,b2,z2,p0,p1⟩,⟨a2,b1,z1,p0,p1⟩,⟨a2,b2,z2,p0,p1⟩,⟨sz v1 u1 a1 b1,sz v1 u2 a1 b2,sz v2 u1 a2 b1,sz v2 u2 a2 b2⟩,rfl,⟨a1,b1,z1,p0,p1⟩,⟨a1,b2,z2,p0,p1⟩,⟨a2,b1,z1,p0,p1⟩,⟨a2,b2,z2,p0,p1⟩,⟨sz v1 u1 a1 b1,sz v1 u2 a1 b2,sz v2 u1 a2 b1,sz v2 u2 a2 b2⟩,rfl,rfl⟩⟩
def sRaw6:List (FuncId×Spec):=[(53,rTrim),(56,rTurn),(51,rRight),(32,rHolds0),(37,rSqrt),(33,rDiv)] ++ sRaw5
theorem sRaw6_ok:SpecsOk Tryz.prog sRaw6:=⟨rTrim_ok,rTurn_ok,rRight_ok,rHolds0_ok,rSqrt_ok,rDiv_ok,sRaw5_ok⟩
def rPlus:Spec:=specK [.v,.v,.i .i64] fun (v:Vx) (u:Vx) (p:Int)=>(some (v.Sm 268435456∧u.Sm 268435456∧0≤p∧p≤1099511627776),vT (plusV v u p))
theorem rPlus_vc(v u:Vx)(p:Int)(Q:Tv→Prop):execF ⟨tys,sRaw6⟩ (fun _=>none) 0 Tryz.f26 [.agg (ivL false v),.agg (ivL false u),.one (.int .i64 p)] Q=((Dx.Sm 68719476736 v.lo∧Dx.Sm 68719476736 u.lo)∧(Dx.Sm 68719476736 v.hi∧Dx.Sm 68719476736 u.hi)∧(Vx.Sm 34359738368 (Vx.mk (plusD v.lo u.lo) (plusD v.hi u.hi))∧(0:Int)≤p∧p≤1099511627776)∧true=true∧Q (Tv.sv (Sv.agg (ivL true (trimV (Vx.mk (plusD v.lo u.lo) (plusD v.hi u.hi)) p))))):=by kernel_rfl
theorem rPlus_ok:SpecOk Tryz.prog 26 rPlus :=
  specK_ok (envOk tys_ok sRaw6_ok) mixed Tryz.func26 rfl (by decide) (by decide) fun (v:Vx) hv (u:Vx) hu (p:Int) _ hp=>⟨fun _=>none,0,by
    obtain ⟨⟨a1,a2⟩,⟨b1,b2⟩,p0,p1⟩:v.Sm 268435456∧u.Sm 268435456∧0≤p∧p≤1099511627776:=hp
    have s1:=plusD_sm (Dx.Wf.m0 hv.1) (Dx.Wf.m0 hu.1) a1 b1
    have s2:=plusD_sm (Dx.Wf.m0 hv.2) (Dx.Wf.m0 hu.2) a2 b2
    exact (rPlus_vc v u p _).mpr ⟨⟨a1.mono (by omega),b1.mono (by omega)⟩,⟨a2.mono (by omega),b2.mono (by omega)⟩,⟨⟨s1.mono (by omega),s2.mono (by omega)⟩,p0,p1⟩,rfl,rfl⟩⟩
def sRaw7:List (FuncId×Spec):=(26,rPlus) :: sRaw6
theorem sRaw7_ok:SpecsOk Tryz.prog sRaw7:=⟨rPlus_ok,sRaw6_ok⟩
def rLess:Spec:=specK [.v,.v,.i .i64] fun (v:Vx) (u:Vx) (p:Int)=>(some (v.Sm 134217728∧u.Sm 134217728∧0≤p∧p≤1099511627776),vT (lessV v u p))
theorem rLess_vc(v u:Vx)(p:Int)(Q:Tv→Prop):execF ⟨tys,sRaw7⟩ (fun _=>none) 0 Tryz.f29 [.agg (ivL false v),.agg (ivL false u),.one (.int .i64 p)] Q=((eB 4611686018427387904 u.lo∧eB 4611686018427387904 u.hi)∧(Vx.Sm 268435456 v∧Vx.Sm 268435456 (turnV u)∧(0:Int)≤p∧p≤1099511627776)∧true=true∧Q (Tv.sv (Sv.agg (ivL true (plusV v (turnV u) p))))):=by kernel_rfl
theorem Dx.Sm.eB{N:Nat}{M:Int}{d:Dx}(h:d.Sm N)(k:(N:Int)≤M):eB M d:=⟨by have:=h.2.1;omega,by have:=h.2.2;omega⟩
theorem rLess_ok:SpecOk Tryz.prog 29 rLess :=
  specK_ok (envOk tys_ok sRaw7_ok) mixed Tryz.func29 rfl (by decide) (by decide) fun (v:Vx) hv (u:Vx) hu (p:Int) _ hp=>⟨fun _=>none,0,by
    obtain ⟨⟨a1,a2⟩,⟨b1,b2⟩,p0,p1⟩:v.Sm 134217728∧u.Sm 134217728∧0≤p∧p≤1099511627776:=hp
    exact (rLess_vc v u p _).mpr ⟨⟨b1.eB (by omega),b2.eB (by omega)⟩,⟨⟨a1.mono (by omega),a2.mono (by omega)⟩,⟨(negD_sm b2 (Dx.Wf.m0 hu.2)).mono (by omega),(negD_sm b1 (Dx.Wf.m0 hu.1)).mono (by omega)⟩,p0,p1⟩,rfl,rfl⟩⟩
def rTimes:Spec:=specK [.v,.v,.i .i64] fun (v:Vx) (u:Vx) (p:Int)=>(some (v.Sm 268435456∧u.Sm 268435456∧0≤p∧p≤1099511627776),vT (timesV v u p))
theorem rTimes_vc(v u:Vx)(p:Int)(Q:Tv→Prop):execF ⟨tys,sRaw7⟩ (fun _=>none) 0 Tryz.f30 [.agg (ivL false v),.agg (ivL false u),.one (.int .i64 p)] Q=((Dx.Sm 274877906944 v.lo∧Dx.Sm 274877906944 u.lo)∧(Dx.Sm 274877906944 v.lo∧Dx.Sm 274877906944 u.hi)∧(Dx.Sm 274877906944 v.hi∧Dx.Sm 274877906944 u.lo)∧(Dx.Sm 274877906944 v.hi∧Dx.Sm 274877906944 u.hi)∧(Dx.Sm 68719476736 (timesD v.lo u.lo)∧Dx.Sm 68719476736 (timesD v.lo u.hi)∧Dx.Sm 68719476736 (timesD v.hi u.lo)∧Dx.Sm 68719476736 (timesD v.hi u.hi))∧(Vx.Sm 34359738368 (spanL (timesD v.lo u.lo) [timesD v.lo u.hi,timesD v.hi u.lo,timesD v.hi u.hi])∧(0:Int)≤p∧p≤1099511627776)∧true=true∧Q (Tv.sv (Sv.agg (ivL true (trimV (spanL (timesD v.lo u.lo) [timesD v.lo u.hi,timesD v.hi u.lo,timesD v.hi u.hi]) p))))):=by kernel_rfl
theorem rTimes_ok:SpecOk Tryz.prog 30 rTimes :=
  specK_ok (envOk tys_ok sRaw7_ok) mixed Tryz.func30 rfl (by decide) (by decide) fun (v:Vx) hv (u:Vx) hu (p:Int) _ hp=>⟨fun _=>none,0,by
    obtain ⟨sv,su,p0,p1⟩:v.Sm 268435456∧u.Sm 268435456∧0≤p∧p≤1099511627776:=hp
    have v1:=Dx.Wf.m0 hv.1
    have v2:=Dx.Wf.m0 hv.2
    have u1:=Dx.Wf.m0 hu.1
    have u2:=Dx.Wf.m0 hu.2
    have sz:∀ {a b:Dx},0≤a.m→0≤b.m→a.Sm 268435456→b.Sm 268435456→(timesD a b).Sm 68719476736:=fun ha hb sa sb=>(timesD_sm ha hb sa sb).mono (by omega)
    have sm:∀ {a:Dx},a.Sm 268435456→a.Sm 274877906944:=fun h=>h.mono (by omega)
    exact (rTimes_vc v u p _).mpr ⟨⟨sm sv.1,sm su.1⟩,⟨sm sv.1,sm su.2⟩,⟨sm sv.2,sm su.1⟩,⟨sm sv.2,sm su.2⟩,⟨sz v1 u1 sv.1 su.1,sz v1 u2 sv.1 su.2,sz v2 u1 sv.2 su.1,sz v2 u2 sv.2 su.2⟩,⟨(prodV_sm (Vx.Wf.p hv) (Vx.Wf.p hu) sv su).mono (by omega),p0,p1⟩,rfl,rfl⟩⟩
def sRaw8:List (FuncId×Spec):=[(29,rLess),(30,rTimes)] ++ sRaw7
theorem sRaw8_ok:SpecsOk Tryz.prog sRaw8:=⟨rLess_ok,rTimes_ok,sRaw7_ok⟩
def fgA:At→At
  | .words _ xs=>.words false xs
  | a=>a
def fgL:List At→List At
  | []=>[]
  | a :: l=>fgA a :: fgL l
def fgS:Sv→Sv
  | .one a=>.one (fgA a)
  | .agg l=>.agg (fgL l)
def fgSs:List Sv→List Sv
  | []=>[]
  | a :: l=>fgS a :: fgSs l
def fgT:Tv→Tv
  | .sv s=>.sv (fgS s)
  | .tup l=>.tup (fgSs l)
section
variable {C:Base} {w:World}
theorem rep_fgA{v:Value}{a:At}(h:Rep C noBox w v a):Rep C noBox w v (fgA a):=by
  cases a with
  | words nw xs=>exact (rep_wf h).2
  | _=>exact h
theorem rep_fgL:∀ {vs:List Value} {l:List At},RepL C noBox w vs l→RepL C noBox w vs (fgL l)
  | [],[],_=>trivial
  | _ :: _,_ :: _,⟨h,k⟩=>⟨rep_fgA h,rep_fgL k⟩
theorem rep_fgS{v:Value}{s:Sv}(h:RepS C noBox w v s):RepS C noBox w v (fgS s):=by
  cases s with
  | one a=>exact rep_fgA h
  | agg l=>obtain ⟨vs,e,h⟩:=h;exact ⟨vs,e,rep_fgL h⟩
theorem rep_fgSs:∀ {vs:List Value} {l:List Sv},RepSs C noBox w vs l→RepSs C noBox w vs (fgSs l)
  | [],[],_=>trivial
  | _ :: _,_ :: _,⟨h,k⟩=>⟨rep_fgS h,rep_fgSs k⟩
theorem rep_fgT{v:Value}{t:Tv}(h:RepT C noBox w v t):RepT C noBox w v (fgT t):=by
  cases t with
  | sv s=>exact rep_fgS h
  | tup l=>obtain ⟨vs,e,h⟩:=h;exact ⟨vs,e,rep_fgSs h⟩
end
def wf1:At→Prop
  | .words _ xs=>WfW xs
  | _=>True
def wfL:List At→Prop
  | []=>True
  | a :: l=>wf1 a∧wfL l
def wfB:At→Prop
  | .ref cs=>wfL cs
  | .rows _ _ _ cs=>wfL cs
  | a=>wf1 a
def wfBs:List At→Prop
  | []=>True
  | a :: l=>wfB a∧wfBs l
def wfS:Sv→Prop
  | .one (.fn _ cs)=>wfBs cs
  | .one a=>wfB a
  | .agg l=>wfBs l
def wfSs:List Sv→Prop
  | []=>True
  | s :: l=>wfS s∧wfSs l
section
variable {C:Base} {w:World}
theorem rep_wf1{v:Value}{a:At}(h:Rep C noBox w v a):wf1 a:=by
  cases a with
  | words nw xs=>exact (rep_wf h).1
  | _=>exact trivial
theorem rep_wfL(f:Nat→Value):∀ (l:List At) (k:Nat),(∀ (i:Nat) a,l[i]?=some a→Rep C noBox w (f (k+i)) a)→wfL l
  | [],_,_=>trivial
  | a :: l,k,h=>⟨rep_wf1 (h 0 a rfl),rep_wfL f l (k+1) fun i x hx=>by have:=h (i+1) x hx;rwa [show k+(i+1)=k+1+i by omega] at this⟩
theorem rep_wfB{v:Value}{a:At}(h:Rep C noBox w v a):wfB a:=by
  cases h with
  | words h=>exact rep_wf1 (.words h)
  | ref vs _ _ _ h=>exact rep_wfL vs _ 0 fun i a hi=>by rw [Nat.zero_add];exact h i a hi
  | rows vs _ _ _ _ _ _ _ _ h=>exact rep_wfL vs _ 0 fun i a hi=>by rw [Nat.zero_add];exact h i a hi
  | _=>exact trivial
theorem rep_wfBs:∀ {vs:List Value} {l:List At},RepL C noBox w vs l→wfBs l
  | [],[],_=>trivial
  | _ :: _,_ :: _,⟨h,k⟩=>⟨rep_wfB h,rep_wfBs k⟩
theorem rep_wfBs':∀ {vs:List Value} {l:List At},vs.length=l.length→(∀ (i:Nat) v a,vs[i]?=some v→l[i]?=some a→Rep C noBox w v a)→wfBs l
  | [],[],_,_=>trivial
  | v :: _,a :: _,hl,h=>⟨rep_wfB (h 0 v a rfl rfl),rep_wfBs' (by simpa using hl) fun i v a hv ha=>h (i+1) v a hv ha⟩
theorem rep_wfS{v:Value}{s:Sv}(h:RepS C noBox w v s):wfS s:=by
  cases s with
  | agg l=>obtain ⟨vs,e,h⟩:=h;exact rep_wfBs h
  | one a =>
    have q:Rep C noBox w v a:=h
    clear h
    cases q with
    | fn hl k=>exact rep_wfBs' hl k
    | words k=>exact rep_wfB (.words k)
    | ref vs hg ha hc k=>exact rep_wfB (.ref vs hg ha hc k)
    | rows vs hl hn hm hg ha hX hb hc k=>exact rep_wfB (.rows vs hl hn hm hg ha hX hb hc k)
    | _=>exact trivial
theorem rep_wfSs:∀ {vs:List Value} {l:List Sv},RepSs C noBox w vs l→wfSs l
  | [],[],_=>trivial
  | _ :: _,_ :: _,⟨h,k⟩=>⟨rep_wfS h,rep_wfSs k⟩
end
theorem specOk_pat {P : Program} {E : Env} (hE : EnvOk P E) (hm : P.follows .mixedOrders = true) {f : FuncId} {fn : Func} {c : Code} (hf : P.funcs[f]? = some fn) (hb : fn.body = some c) (hname : (fn.name == "runtime.NumGoroutine") = false) {sp : Spec} (k : Nat) (hk : k ≤ fn.ntmps)
    (h:∀ l p t,wfSs l→sp l=(p,t)→(match p with | none=>True | some p=>p)→l.length≤k∧∃ inv fuel,execF E inv fuel fn l (fun x=>x=t∨fgT x=t)):SpecOk P f sp:=by
  refine ⟨⟨fn,c,hf,hname,hb⟩,fun C w vs l hC hX hT hvs hp=>?_⟩
  obtain ⟨hl,inv,fuel,h⟩:=h l (sp l).1 (sp l).2 (rep_wfSs hvs) rfl hp
  refine (execF_ok hE hm hf h hC hX hT hvs (by rw [hvs.length];omega)).mono ?_
  rintro e w' ⟨v,t,rfl,h0,h1,h2⟩
  rcases h0 with rfl | h0
  · exact ⟨v,rfl,h1,h2⟩
  · exact ⟨v,rfl,h0 ▸ rep_fgT h1,h2⟩
def VcKW(E:Env)(fn:Func):(ks:List Ak)→AFun ks→(List Sv→List Sv)→Prop
  | [],g,acc=>(match g.1 with | none=>True | some p=>p)→∃ inv fuel,execF E inv fuel fn (acc []) (fun t=>t=g.2∨fgT t=g.2)
  | k :: ks,g,acc=>∀ x:k.T,k.wf x→VcKW E fn ks (g x) (fun r=>acc (k.enc x :: r))
theorem specKW_ok {P : Program} {E : Env} (hE : EnvOk P E) (hm : P.follows .mixedOrders = true) {f : FuncId} {fn : Func} {c : Code} (hf : P.funcs[f]? = some fn) (hb : fn.body = some c) (hname : (fn.name == "runtime.NumGoroutine") = false) {ks : List Ak} {g : AFun ks} (hk : ks.length ≤ fn.ntmps)
    (h:VcKW E fn ks g id):SpecOk P f (specK ks g):=by
  refine ⟨⟨fn,c,hf,hname,hb⟩,fun C w vs l hC hX hT hvs hp=>?_⟩
  have key:∀ (ks:List Ak) (g:AFun ks) (acc:List Sv→List Sv) (l:List Sv) (vs:List Value),VcKW E fn ks g acc→RepSs C noBox w vs l→(match (specK ks g l).1 with | none=>True | some p=>p) →
      l.length=ks.length∧∃ l',RepSs C noBox w vs l'∧l'.length=ks.length∧∃ inv fuel,execF E inv fuel fn (acc l') (fun t=>t=(specK ks g l).2∨fgT t=(specK ks g l).2):=by
    intro ks
    induction ks with
    | nil =>
      intro g acc l vs h hr hp
      cases l with
      | nil=>exact ⟨rfl,[],hr,rfl,h hp⟩
      | cons=>exact hp.elim
    | cons k ks ih =>
      intro g acc l vs h hr hp
      cases l with
      | nil=>exact hp.elim
      | cons s l =>
        cases vs with
        | nil=>exact hr.elim
        | cons v vs =>
          have e:specK (k :: ks) g (s :: l)=(match k.dec s with | some x=>specK ks (g x) l | none=>noSpec):=rfl
          rw [e] at hp ⊢
          cases hd:k.dec s with
          | none=>rw [hd] at hp;exact hp.elim
          | some x =>
            rw [hd] at hp
            obtain ⟨h1,h2⟩:=dec_ok hd hr.1
            obtain ⟨h3,l',h4,h5,h6⟩:=ih (g x) _ l vs (h x h1) hr.2 hp
            exact ⟨by simp [h3],k.enc x :: l',⟨h2,h4⟩,by simp [h5],h6⟩
  obtain ⟨h1,l',h2,h3,inv,fuel,h4⟩:=key ks g id l vs h hvs hp
  refine (execF_ok hE hm hf h4 hC hX hT h2 (by rw [hvs.length,h1];exact hk)).mono ?_
  rintro e w' ⟨v,t,rfl,h0,h1,h2⟩
  rcases h0 with rfl | h0
  · exact ⟨v,rfl,h1,h2⟩
  · exact ⟨v,rfl,h0 ▸ rep_fgT h1,h2⟩
def p2(e:Int):Rat:=2^e
theorem p2_pos(e:Int):0<p2 e:=Rat.zpow_pos (by decide)
theorem p2_add(a b:Int):p2 (a+b)=p2 a*p2 b:=Rat.zpow_add (by decide) a b
theorem p2_zero:p2 0=1:=Rat.zpow_zero 2
theorem p2_nat(n:Nat):p2 n=((2^n:Int):Rat):=by
  unfold p2;rw [Rat.zpow_natCast,Rat.intCast_pow];rfl
theorem p2_toNat{n:Int}(h:0≤n):p2 n=((2^n.toNat:Int):Rat):=by
  rw [←p2_nat,Int.toNat_of_nonneg h]
theorem p2_neg(e:Int):p2 (-e)*p2 e=1:=by rw [←p2_add,Int.add_left_neg,p2_zero]
theorem p2_sub(a b:Int):p2 (a-b)*p2 b=p2 a:=by rw [←p2_add];congr 1;omega
def Dx.rv(d:Dx):Rat:=(d.sm:Rat)*p2 d.e
theorem rv_zero{d:Dx}(h:d.m=0):d.rv=0:=by
  unfold Dx.rv Dx.sm;rw [h]
  cases d.neg<;>simp
theorem sgnm(neg:Bool)(a b:Int):(if neg then -(a*b) else a*b)=a*(if neg then -b else b):=by cases neg<;>simp [Int.mul_neg]
theorem rv_mkD{neg:Bool}{m e:Int}(h:0≤m):(mkD neg m e).rv=((if neg then -m else m:Int):Rat)*p2 e:=by
  by_cases h0:m=0
  · subst h0;rw [mkD_zero,rv_zero (by rfl)];cases neg<;>simp
  · obtain ⟨h1,h2⟩:=tz_div (m:=m) (by omega)
    have hm:=mkD_m (neg:=neg) (e:=e) h
    have hn:(mkD neg m e).neg=neg:=by unfold mkD;rw [if_neg h0]
    have he:(mkD neg m e).e=e+(tz m:Int):=by unfold mkD;rw [if_neg h0]
    unfold Dx.rv Dx.sm
    rw [hm,hn,he,p2_add,p2_nat]
    conv=>rhs;rw [h1,sgnm,rcM]
    grind
theorem rv_mkS{s e:Int}:(mkS s e).rv=(s:Rat)*p2 e:=by
  unfold mkS;rw [rv_mkD (by omega)]
  congr 2
  by_cases h:s<0
  · rw [decide_eq_true h];simp only [if_true];omega
  · rw [decide_eq_false h];simp;omega
theorem rv_one{d:Dx}(h:0≤d.m):(oneD d).rv=d.rv:=by unfold oneD;rw [rv_mkD h];rfl
theorem rv_neg{d:Dx}(h:0≤d.m):(negD d).rv = -d.rv:=by
  unfold negD;rw [rv_mkD h];unfold Dx.rv Dx.sm
  cases d.neg<;>simp [Rat.neg_mul]
theorem rv_scl{d:Dx}{mn:Int}(h:mn≤d.e):d.rv=(d.scl mn:Rat)*p2 mn:=by
  unfold Dx.rv Dx.scl
  rw [rcM,←p2_toNat (by omega),Rat.mul_assoc,p2_sub]
theorem rv_plusX{x y:Dx}:(plusX x y).rv=x.rv+y.rv:=by
  unfold plusX
  split
  · rename_i h;rw [rv_zero h,Rat.zero_add]
  · split
    · rename_i h;rw [rv_zero h,Rat.add_zero]
    · rw [rv_mkS,rv_scl (d:=x) (mn:=min x.e y.e) (by omega),rv_scl (d:=y) (mn:=min x.e y.e) (by omega),rcA]
      unfold Dx.scl;grind
theorem rv_plus{a b:Dx}(ha:0≤a.m)(hb:0≤b.m):(plusD a b).rv=a.rv+b.rv:=by unfold plusD;rw [rv_plusX,rv_one ha,rv_one hb]
theorem rv_less{a b:Dx}(ha:0≤a.m)(hb:0≤b.m):(lessD a b).rv=a.rv-b.rv:=by unfold lessD;rw [rv_plus ha negD_p,rv_neg hb,Rat.sub_eq_add_neg]
theorem cmpI_cases(a b:Int):(cmpI a b = -1∧a<b)∨(cmpI a b=0∧a=b)∨(cmpI a b=1∧b<a):=by
  unfold cmpI;split
  · left;exact ⟨rfl,by assumption⟩
  · split<;>omega
theorem cmpD_cases(a b:Dx):(cmpD a b = -1∧a.rv<b.rv)∨(cmpD a b=0∧a.rv=b.rv)∨(cmpD a b=1∧b.rv<a.rv):=by
  have ea:=rv_scl (d:=a) (mn:=min a.e b.e) (by omega)
  have eb:=rv_scl (d:=b) (mn:=min a.e b.e) (by omega)
  have p:=p2_pos (min a.e b.e)
  rw [ea,eb]
  unfold cmpD
  rcases cmpI_cases (a.scl (min a.e b.e)) (b.scl (min a.e b.e)) with ⟨h,k⟩|⟨h,k⟩|⟨h,k⟩
  · left;exact ⟨h,(Rat.mul_lt_mul_right p).2 (Rat.intCast_lt_intCast.2 k)⟩
  · right;left;exact ⟨h,by rw [k]⟩
  · right;right;exact ⟨h,(Rat.mul_lt_mul_right p).2 (Rat.intCast_lt_intCast.2 k)⟩
theorem cmpD_le{a b:Dx}:cmpD a b≤0↔a.rv≤b.rv:=by rcases cmpD_cases a b with ⟨h,k⟩|⟨h,k⟩|⟨h,k⟩<;>rw [h]<;>simp<;>grind
theorem sgn_rv{d:Dx}(h:0≤d.m):(d.sgn=0∧d.rv=0)∨(d.sgn=1∧0<d.rv)∨(d.sgn = -1∧d.rv<0):=by
  have p:=p2_pos d.e
  rcases scl_sgn h d.e with ⟨a,b⟩|⟨a,_,_,b,c⟩|⟨a,_,_,b,c⟩
  · left;refine ⟨a,?_⟩;rw [rv_scl (Int.le_refl _),b];simp
  · right;left;refine ⟨a,?_⟩;rw [rv_scl (Int.le_refl _),b];exact Rat.mul_pos (Rat.intCast_pos.2 c) p
  · right;right;refine ⟨a,?_⟩;rw [rv_scl (Int.le_refl _),b]
    have:0<((d.m*2^(d.e-d.e).toNat:Int):Rat)*p2 d.e:=Rat.mul_pos (Rat.intCast_pos.2 c) p
    rw [Rat.intCast_neg];grind
theorem sgn_less{a b:Dx}(ha:0≤a.m)(hb:0≤b.m):(lessD a b).sgn=cmpD a b:=by
  have:=rv_less ha hb
  rcases sgn_rv (lessD_p (a:=a) (b:=b)) with ⟨h,k⟩|⟨h,k⟩|⟨h,k⟩<;>rcases cmpD_cases a b with ⟨h',k'⟩|⟨h',k'⟩|⟨h',k'⟩<;>rw [h,h']<;>grind
def fForm:Spec:=specK [.b,.w,.i .i64] fun (neg:Bool) (xs:List Int) (e:Int)=>(some (-4611686018427387904≤e∧e≤4611686018427387904),dT (mkD neg (val xs) e))
theorem fForm_vc(neg:Bool)(xs:List Int)(e:Int)(Q:Tv→Prop):execF ⟨tys,sRef3⟩ (fun _=>none) 0 Tryz.f49 [.one (.bool neg),.one (.words false xs),.one (.int .i64 e)] Q=(br (eqI (↑(List.length (ws (val xs))):Int) 0) (Q (Tv.sv (Sv.agg [At.bool false,At.words true [],At.int IntKind.i64 0]))) (((0:Int)≤(↑(tz (val (ws (val xs)))):Int)∧(↑(tz (val (ws (val xs)))):Int)≤9007199254740992)∧inR (e+(↑(tz (val (ws (val xs)))):Int))∧Q (Tv.sv (Sv.agg [At.bool neg,At.words true (ws (val (ws (val xs))/2^Int.toNat (↑(tz (val (ws (val xs)))):Int))),At.int IntKind.i64 (e+(↑(tz (val (ws (val xs)))):Int))])))):=by kernel_rfl
theorem fForm_ok:SpecOk Tryz.prog 49 fForm :=
  specK_ok (envOk tys_ok sRef3_ok) mixed Tryz.func49 rfl (by decide) (by decide) fun neg _ xs hxs (e:Int) _ hp=>⟨fun _=>none,0,by
    have h0:-4611686018427387904≤e:=hp.1
    have h1:e≤4611686018427387904:=hp.2
    have hv:=WfW.val0 hxs
    have ht:=tz_small hxs.1 hxs.2
    refine (fForm_vc neg xs e _).mpr (br_intro (fun h=>?_) (fun h=>?_))
    · rw [len_zero hv,decide_eq_true_eq] at h
      show _=dT (mkD neg (val xs) e)
      rw [h,mkD_zero]
      rfl
    · rw [len_zero hv,decide_eq_false_iff_not] at h
      rw [val_ws hv]
      refine ⟨⟨by omega,by omega⟩,⟨by omega,by omega⟩,?_⟩
      show _=dT (mkD neg (val xs) e)
      rw [mkD,if_neg h,Int.toNat_natCast]
      rfl⟩
def fZero:Spec:=specK [.d] fun (d:Dx)=>(none,bT d.zeroB)
theorem fZero_vc(d:Dx)(Q:Tv→Prop):execF ⟨tys,sRef3⟩ (fun _=>none) 0 Tryz.f46 [.agg (dyL false d)] Q=(Q (Tv.sv (Sv.one (At.bool (eqI (↑(List.length (ws (val d.xs))):Int) 0))))):=by kernel_rfl
theorem fZero_ok:SpecOk Tryz.prog 46 fZero :=
  specK_ok (envOk tys_ok sRef3_ok) mixed Tryz.func46 rfl (by decide) (by decide) fun (d:Dx) hd _=>⟨fun _=>none,0,by
    refine (fZero_vc d _).mpr ?_
    show _=bT d.zeroB
    rw [len_zero (WfW.val0 hd)]
    rfl⟩
def fRight:Spec:=specK [.d] fun (d:Dx)=>(none,bT d.fitsB)
theorem fRight_vc(d:Dx)(Q:Tv→Prop):execF ⟨tys,sRef3⟩ (fun _=>none) 0 Tryz.f38 [.agg (dyL false d)] Q=(br (!greatB (val d.xs)) (br (leI (-32768) d.e) (Q (Tv.sv (Sv.one (At.bool (leI d.e 32768))))) (Q (Tv.sv (Sv.one (At.bool false))))) (Q (Tv.sv (Sv.one (At.bool false))))):=by kernel_rfl
theorem fRight_ok:SpecOk Tryz.prog 38 fRight :=
  specK_ok (envOk tys_ok sRef3_ok) mixed Tryz.func38 rfl (by decide) (by decide) fun (d:Dx) _ _=>⟨fun _=>none,0,by
    show execF _ _ _ _ _ (fun t=>t=bT d.fitsB)
    refine (fRight_vc d _).mpr (br_intro (fun h=>br_intro (fun h'=>?_) fun h'=>?_) fun h=>?_)
    · unfold Dx.fitsB Dx.m;rw [h,show decide (-32768≤d.e)=true from h'];rfl
    · unfold Dx.fitsB Dx.m;rw [h,show decide (-32768≤d.e)=false from h'];rfl
    · unfold Dx.fitsB Dx.m;rw [h];rfl⟩
def fTop:Spec:=specK [.d] fun (d:Dx)=>(some (eB 2305843009213693952 d),iT (d.e+blen d.m-1))
theorem fTop_vc(d:Dx)(Q:Tv→Prop):execF ⟨tys,sRef3⟩ (fun _=>none) 0 Tryz.f63 [.agg (dyL false d)] Q=(inR (d.e+(↑(blen (val d.xs)):Int))∧inR (d.e+(↑(blen (val d.xs)):Int)-1)∧true=true∧Q (Tv.sv (Sv.one (At.int IntKind.i64 (d.e+(↑(blen (val d.xs)):Int)-1))))):=by kernel_rfl
theorem fTop_ok:SpecOk Tryz.prog 63 fTop :=
  specK_ok (envOk tys_ok sRef3_ok) mixed Tryz.func63 rfl (by decide) (by decide) fun (d:Dx) hd hp=>⟨fun _=>none,0,by
    have hb:=blen_wf hd
    have h0:-2305843009213693952≤d.e:=hp.1
    have h1:d.e≤2305843009213693952:=hp.2
    exact (fTop_vc d _).mpr ⟨⟨by omega,by omega⟩,⟨by omega,by omega⟩,rfl,rfl⟩⟩
def sameD(d c:Dx):Bool:=(d.neg == c.neg) && (eqI d.e c.e && decide (d.xs=c.xs))
def fSame:Spec:=specK [.d,.d] fun (d:Dx) (c:Dx)=>(none,bT (sameD d c))
theorem fSame_vc(d c:Dx)(Q:Tv→Prop):execF ⟨tys,sRef3⟩ (fun _=>none) 0 Tryz.f22 [.agg (dyL false d),.agg (dyL false c)] Q=(br (d.neg == c.neg) (br (eqI d.e c.e) (Q (Tv.sv (Sv.one (At.bool (decide (d.xs=c.xs)))))) (Q (Tv.sv (Sv.one (At.bool false))))) (Q (Tv.sv (Sv.one (At.bool false))))):=by kernel_rfl
theorem fSame_ok:SpecOk Tryz.prog 22 fSame :=
  specK_ok (envOk tys_ok sRef3_ok) mixed Tryz.func22 rfl (by decide) (by decide) fun (d:Dx) _ (c:Dx) _ _=>⟨fun _=>none,0,by
    show execF _ _ _ _ _ (fun t=>t=bT (sameD d c))
    refine (fSame_vc d c _).mpr (br_intro (fun h=>br_intro (fun h'=>?_) fun h'=>?_) fun h=>?_)
    · rw [sameD,h,h'];rfl
    · rw [sameD,h,h'];rfl
    · rw [sameD,h];rfl⟩
def sF1:List (FuncId×Spec):=[(49,fForm),(46,fZero),(38,fRight),(63,fTop),(22,fSame)] ++ sRef3
theorem sF1_ok:SpecsOk Tryz.prog sF1:=⟨fForm_ok,fZero_ok,fRight_ok,fTop_ok,fSame_ok,sRef3_ok⟩
def fOne:Spec:=specK [.d] fun (d:Dx)=>(some (eB 4611686018427387904 d),dT (oneD d))
theorem fOne_vc(d:Dx)(Q:Tv→Prop):execF ⟨tys,sF1⟩ (fun _=>none) 0 Tryz.f66 [.agg (dyL false d)] Q=(((-4611686018427387904:Int)≤d.e∧d.e≤4611686018427387904)∧Q (Tv.sv (Sv.agg (dyL true (mkD d.neg (val d.xs) d.e))))):=by kernel_rfl
theorem fOne_ok:SpecOk Tryz.prog 66 fOne :=
  specK_ok (envOk tys_ok sF1_ok) mixed Tryz.func66 rfl (by decide) (by decide) fun (d:Dx) _ hp=>⟨fun _=>none,0,(fOne_vc d _).mpr ⟨hp,rfl⟩⟩
def fNeg:Spec:=specK [.d] fun (d:Dx)=>(some (eB 4611686018427387904 d),dT (negD d))
theorem fNeg_vc(d:Dx)(Q:Tv→Prop):execF ⟨tys,sF1⟩ (fun _=>none) 0 Tryz.f71 [.agg (dyL false d)] Q=(((-4611686018427387904:Int)≤d.e∧d.e≤4611686018427387904)∧Q (Tv.sv (Sv.agg (dyL true (mkD (!d.neg) (val d.xs) d.e))))):=by kernel_rfl
theorem fNeg_ok:SpecOk Tryz.prog 71 fNeg :=
  specK_ok (envOk tys_ok sF1_ok) mixed Tryz.func71 rfl (by decide) (by decide) fun (d:Dx) _ hp=>⟨fun _=>none,0,(fNeg_vc d _).mpr ⟨hp,rfl⟩⟩
def fSign:Spec:=specK [.d] fun (d:Dx)=>(none,iT d.sgn)
theorem fSign_vc(d:Dx)(Q:Tv→Prop):execF ⟨tys,sF1⟩ (fun _=>none) 0 Tryz.f20 [.agg (dyL false d)] Q=(br (Dx.zeroB d) (Q (Tv.sv (Sv.one (At.int IntKind.i64 0)))) (br d.neg (Q (Tv.sv (Sv.one (At.int IntKind.i64 (-1))))) (Q (Tv.sv (Sv.one (At.int IntKind.i64 1)))))):=by kernel_rfl
theorem fSign_ok:SpecOk Tryz.prog 20 fSign :=
  specK_ok (envOk tys_ok sF1_ok) mixed Tryz.func20 rfl (by decide) (by decide) fun (d:Dx) _ _=>⟨fun _=>none,0,by
    show execF _ _ _ _ _ (fun t=>t=iT d.sgn)
    refine (fSign_vc d _).mpr (br_intro (fun h=>?_) fun h=>br_intro (fun h'=>?_) fun h'=>?_)
    · rw [Dx.sgn,if_pos (zeroB_true.1 h)]
    · rw [Dx.sgn,if_neg (zeroB_false.1 h),if_pos h']
    · rw [Dx.sgn,if_neg (zeroB_false.1 h),h'];rfl⟩
def fInt:Spec:=specK [.i .i64] fun (n:Int)=>(some (inR n),dT (mkS n 0))
theorem fInt_vc(n:Int)(Q:Tv→Prop):execF ⟨tys,sF1⟩ (fun _=>none) 0 Tryz.f23 [.one (.int .i64 n)] Q=(br (ltI n 0) (Word (IntKind.wrap IntKind.u64 ((0:Int)-IntKind.wrap IntKind.u64 n))∧((-4611686018427387904:Int)≤0∧(0:Int)≤4611686018427387904)∧Q (Tv.sv (Sv.agg (dyL true (mkD true (val (ws (IntKind.wrap IntKind.u64 ((0:Int)-IntKind.wrap IntKind.u64 n)))) 0))))) (Word (IntKind.wrap IntKind.u64 n)∧((-4611686018427387904:Int)≤0∧(0:Int)≤4611686018427387904)∧Q (Tv.sv (Sv.agg (dyL true (mkD false (val (ws (IntKind.wrap IntKind.u64 n))) 0)))))):=by kernel_rfl
theorem fInt_ok:SpecOk Tryz.prog 23 fInt :=
  specK_ok (envOk tys_ok sF1_ok) mixed Tryz.func23 rfl (by decide) (by decide) fun (n:Int) _ hp=>⟨fun _=>none,0,by
    obtain ⟨h1,h2⟩:inR n:=hp
    show execF _ _ _ _ _ (fun t=>t=dT (mkS n 0))
    refine (fInt_vc n _).mpr (br_intro (fun h=>?_) fun h=>?_)
    · have e:IntKind.wrap .u64 (0-IntKind.wrap .u64 n)=(n.natAbs:Int):=by
        rw [ltI_true] at h;rw [IntKind.wrap_u64,IntKind.wrap_u64];omega
      rw [e,val_ws (by omega)]
      refine ⟨⟨by omega,by omega⟩,⟨by omega,by omega⟩,?_⟩
      rw [mkS,decide_eq_true (ltI_true.1 h)]
    · have e:IntKind.wrap .u64 n=(n.natAbs:Int):=by
        rw [ltI_false] at h;rw [IntKind.wrap_u64];omega
      rw [e,val_ws (by omega)]
      refine ⟨⟨by omega,by omega⟩,⟨by omega,by omega⟩,?_⟩
      rw [mkS,decide_eq_false (ltI_false.1 h)]⟩
def sF2:List (FuncId×Spec):=[(66,fOne),(71,fNeg),(20,fSign),(23,fInt)] ++ sF1
theorem sF2_ok:SpecsOk Tryz.prog sF2:=⟨fOne_ok,fNeg_ok,fSign_ok,fInt_ok,sF1_ok⟩
theorem one_ws{d:Dx}(h:0≤d.m):(oneD d).xs=ws (oneD d).m:=mkD_ws h
theorem one_len{d:Dx}(h:0≤d.m):eqI ((oneD d).xs.length:Nat) 0=decide ((oneD d).m=0):=by rw [one_ws h,len_zero oneD_p]
theorem tz_odd2{m:Int}(h:m % 2=1)(h0:0≤m):tz m=0:=by
  obtain ⟨k,rfl⟩:∃ k,m=2*k+1:=⟨m/2,by omega⟩
  exact tz_odd (by omega)
theorem mkD_mul_pow{neg:Bool}{m e:Int}{k:Nat}(h:0≤m):mkD neg (m*2^k) e=mkD neg m (e+k):=by
  by_cases hz:m=0
  · subst hz;rw [Int.zero_mul,mkD_zero,mkD_zero]
  · have hp:0<m:=by omega
    have p:=two_pow_pos k
    have hq:m*2^k≠0:=by have:=Int.mul_pos hp p;omega
    unfold mkD
    rw [if_neg hq,if_neg hz,tz_mul_pow hp]
    have:m*2^k/2^(tz m+k)=m/2^tz m:=by
      rw [Int.pow_add,Int.mul_ediv_mul_of_pos_left _ _ p]
    rw [this]
    congr 1
    omega
theorem mkD_odd{neg:Bool}{m e:Int}(h:0<m):(mkD neg m e).m % 2=1:=by
  rw [mkD_m (by omega)]
  obtain ⟨k,hk,e⟩:=tz_spec h
  have p:=two_pow_pos (tz m)
  have e2:m/2^tz m=2*k+1:=by
    conv=>lhs;lhs;rw [e]
    exact Int.mul_ediv_cancel_left _ (by omega)
  omega
theorem one_odd{d:Dx}(h:0≤d.m)(h0:(oneD d).m≠0):(oneD d).m % 2=1:=mkD_odd (by
  have:d.m≠0:=fun e=>h0 (by unfold oneD;rw [(mkD_m_zero h).2 e])
  omega)
def fTimes:Spec:=specK [.d,.d] fun (a:Dx) (b:Dx)=>(some (a.Sm 68719476736∧b.Sm 68719476736),dT (timesD a b))
theorem fTimes_vc(a b:Dx)(Q:Tv→Prop):execF ⟨tys,sF2⟩ (fun _=>none) 0 Tryz.f43 [.agg (dyL false a),.agg (dyL false b)] Q=(eB 4611686018427387904 a∧eB 4611686018427387904 b∧true=true∧List.length (ws (val (oneD a).xs))+List.length (ws (val (oneD b).xs))≤17592186044414∧inR ((oneD a).e+(oneD b).e)∧((-4611686018427387904:Int)≤(oneD a).e+(oneD b).e∧(oneD a).e+(oneD b).e≤4611686018427387904)∧true=true∧Q (Tv.sv (Sv.agg (dyL true (mkD (!(oneD a).neg == (oneD b).neg) (val (ws (val (oneD a).xs*val (oneD b).xs))) ((oneD a).e+(oneD b).e)))))):=by kernel_rfl
theorem times_one{a b:Dx}(ha:0≤a.m)(hb:0≤b.m):mkD (!((oneD a).neg == (oneD b).neg)) ((oneD a).m*(oneD b).m) ((oneD a).e+(oneD b).e)=timesD a b:=by
  unfold timesD
  by_cases h1:a.m=0
  · rw [h1,Int.zero_mul,mkD_zero,show (oneD a).m=0 by unfold oneD;exact (mkD_m_zero ha).2 h1,Int.zero_mul,mkD_zero]
  · by_cases h2:b.m=0
    · rw [h2,Int.mul_zero,mkD_zero,show (oneD b).m=0 by unfold oneD;exact (mkD_m_zero hb).2 h2,Int.mul_zero,mkD_zero]
    · obtain ⟨e1,g1⟩:=tz_div (m:=a.m) (by omega)
      obtain ⟨e2,g2⟩:=tz_div (m:=b.m) (by omega)
      have r1:(oneD a).m=a.m/2^tz a.m:=mkD_m ha
      have r2:(oneD b).m=b.m/2^tz b.m:=mkD_m hb
      have n1:(oneD a).neg=a.neg:=by unfold oneD mkD;rw [if_neg h1]
      have n2:(oneD b).neg=b.neg:=by unfold oneD mkD;rw [if_neg h2]
      have x1:(oneD a).e=a.e+(tz a.m:Int):=by unfold oneD mkD;rw [if_neg h1]
      have x2:(oneD b).e=b.e+(tz b.m:Int):=by unfold oneD mkD;rw [if_neg h2]
      rw [n1,n2,r1,r2,x1,x2]
      generalize a.m/2^tz a.m=A at *
      generalize b.m/2^tz b.m=B at *
      generalize tz a.m=i at *
      generalize tz b.m=j at *
      rw [e1,e2]
      have:(2:Int)^i*A*(2^j*B)=A*B*2^(i+j):=by rw [Int.pow_add];simp only [Int.mul_assoc,Int.mul_comm,Int.mul_left_comm]
      rw [this,mkD_mul_pow (Int.mul_nonneg (by omega) (by omega))]
      congr 1
      omega
theorem fTimes_ok:SpecOk Tryz.prog 43 fTimes :=
  specK_ok (envOk tys_ok sF2_ok) mixed Tryz.func43 rfl (by decide) (by decide) fun (a:Dx) ha (b:Dx) hb hp=>⟨fun _=>none,0,by
    obtain ⟨s1,s2⟩:Dx.Sm 68719476736 a∧Dx.Sm 68719476736 b:=hp
    have m1:=Dx.Wf.m0 ha
    have m2:=Dx.Wf.m0 hb
    obtain ⟨z1,z2,z3⟩:=one_sm m1 s1
    obtain ⟨z4,z5,z6⟩:=one_sm m2 s2
    have q1:=oneD_p (d:=a)
    have q2:=oneD_p (d:=b)
    have hM:=Int.mul_nonneg q1 q2
    have l1:=ws_blen (k:=4294967296) q1 (by omega)
    have l2:=ws_blen (k:=4294967296) q2 (by omega)
    refine (fTimes_vc a b _).mpr ⟨s1.eB (by omega),s2.eB (by omega),rfl,?_⟩
    unfold Dx.m at *
    rw [val_ws hM]
    refine ⟨by omega,⟨by omega,by omega⟩,⟨by omega,by omega⟩,rfl,?_⟩
    show _=dT (timesD a b)
    rw [←times_one m1 m2];rfl⟩
def fPlus:Spec:=specK [.d,.d] fun (a:Dx) (b:Dx)=>(some (a.Sm 68719476736∧b.Sm 68719476736),dT (plusD a b))
theorem fPlus_vc(a b:Dx)(Q:Tv→Prop):execF ⟨tys,sF2⟩ (fun _=>none) 0 Tryz.f41 [.agg (dyL false a),.agg (dyL false b)] Q=(eB 4611686018427387904 a∧eB 4611686018427387904 b∧true=true∧br (eqI (↑(List.length (oneD a).xs):Int) 0) (Q (Tv.sv (Sv.agg (dyL true (oneD b))))) (br (eqI (↑(List.length (oneD b).xs):Int) 0) (Q (Tv.sv (Sv.agg (dyL true (oneD a))))) (inR ((oneD a).e-minI (oneD a).e (oneD b).e)∧((0:Int)≤(oneD a).e-minI (oneD a).e (oneD b).e∧(oneD a).e-minI (oneD a).e (oneD b).e≤1099511627776∧List.length (oneD a).xs≤8796093022208)∧inR ((oneD b).e-minI (oneD a).e (oneD b).e)∧((0:Int)≤(oneD b).e-minI (oneD a).e (oneD b).e∧(oneD b).e-minI (oneD a).e (oneD b).e≤1099511627776∧List.length (oneD b).xs≤8796093022208)∧br ((oneD a).neg == (oneD b).neg) ((List.length (ws (val (oneD a).xs*2^Int.toNat ((oneD a).e-minI (oneD a).e (oneD b).e)))≤17592186044414∧List.length (ws (val (oneD b).xs*2^Int.toNat ((oneD b).e-minI (oneD a).e (oneD b).e)))≤17592186044414)∧((-4611686018427387904:Int)≤minI (oneD a).e (oneD b).e∧minI (oneD a).e (oneD b).e≤4611686018427387904)∧true=true∧Q (Tv.sv (Sv.agg (dyL true (mkD (oneD a).neg (val (ws (val (ws (val (oneD a).xs*2^Int.toNat ((oneD a).e-minI (oneD a).e (oneD b).e)))+val (ws (val (oneD b).xs*2^Int.toNat ((oneD b).e-minI (oneD a).e (oneD b).e)))))) (minI (oneD a).e (oneD b).e)))))) (br (leI 0 (cmpI (val (ws (val (oneD a).xs*2^Int.toNat ((oneD a).e-minI (oneD a).e (oneD b).e)))) (val (ws (val (oneD b).xs*2^Int.toNat ((oneD b).e-minI (oneD a).e (oneD b).e)))))) ((val (ws (val (oneD b).xs*2^Int.toNat ((oneD b).e-minI (oneD a).e (oneD b).e)))≤val (ws (val (oneD a).xs*2^Int.toNat ((oneD a).e-minI (oneD a).e (oneD b).e)))∧List.length (ws (val (oneD a).xs*2^Int.toNat ((oneD a).e-minI (oneD a).e (oneD b).e)))≤17592186044414∧List.length (ws (val (oneD b).xs*2^Int.toNat ((oneD b).e-minI (oneD a).e (oneD b).e)))≤17592186044414)∧((-4611686018427387904:Int)≤minI (oneD a).e (oneD b).e∧minI (oneD a).e (oneD b).e≤4611686018427387904)∧true=true∧Q (Tv.sv (Sv.agg (dyL true (mkD (oneD a).neg (val (ws (val (ws (val (oneD a).xs*2^Int.toNat ((oneD a).e-minI (oneD a).e (oneD b).e)))-val (ws (val (oneD b).xs*2^Int.toNat ((oneD b).e-minI (oneD a).e (oneD b).e)))))) (minI (oneD a).e (oneD b).e)))))) ((val (ws (val (oneD a).xs*2^Int.toNat ((oneD a).e-minI (oneD a).e (oneD b).e)))≤val (ws (val (oneD b).xs*2^Int.toNat ((oneD b).e-minI (oneD a).e (oneD b).e)))∧List.length (ws (val (oneD b).xs*2^Int.toNat ((oneD b).e-minI (oneD a).e (oneD b).e)))≤17592186044414∧List.length (ws (val (oneD a).xs*2^Int.toNat ((oneD a).e-minI (oneD a).e (oneD b).e)))≤17592186044414)∧((-4611686018427387904:Int)≤minI (oneD a).e (oneD b).e∧minI (oneD a).e (oneD b).e≤4611686018427387904)∧true=true∧Q (Tv.sv (Sv.agg (dyL true (mkD (oneD b).neg (val (ws (val (ws (val (oneD b).xs*2^Int.toNat ((oneD b).e-minI (oneD a).e (oneD b).e)))-val (ws (val (oneD a).xs*2^Int.toNat ((oneD a).e-minI (oneD a).e (oneD b).e)))))) (minI (oneD a).e (oneD b).e)))))))))):=by kernel_rfl
theorem fPlus_ok:SpecOk Tryz.prog 41 fPlus :=
  specK_ok (envOk tys_ok sF2_ok) mixed Tryz.func41 rfl (by decide) (by decide) fun (a:Dx) ha (b:Dx) hb hp=>⟨fun _=>none,0,by
    obtain ⟨s1,s2⟩:Dx.Sm 68719476736 a∧Dx.Sm 68719476736 b:=hp
    have m1:=Dx.Wf.m0 ha
    have m2:=Dx.Wf.m0 hb
    have q1:=oneD_p (d:=a)
    have q2:=oneD_p (d:=b)
    have z1:=one_sm m1 s1
    have z2:=one_sm m2 s2
    show execF _ _ _ _ _ (fun t=>t=dT (plusX (oneD a) (oneD b)))
    refine (fPlus_vc a b _).mpr ⟨s1.eB (by omega),s2.eB (by omega),rfl,?_⟩
    rw [one_len m1,one_len m2]
    refine br_intro (fun h=>?_) (fun h=>br_intro (fun h'=>?_) fun h'=>?_)
    · rw [plusX,if_pos (of_decide_eq_true h)]
    · rw [plusX,if_neg (of_decide_eq_false h),if_pos (of_decide_eq_true h')]
    · have h:=of_decide_eq_false h
      have h':=of_decide_eq_false h'
      obtain ⟨X,Y,mn,hX,hY,hmn,pX,pY,lX,lY,mn0,mn1,hsame,hge,hlt⟩:=plus_parts q1 q2 h h' z1 z2
      have w1:(oneD a).xs.length≤8796093022208:=by rw [one_ws m1];exact ws_blen q1 (by have:=z1.1;omega)
      have w2:(oneD b).xs.length≤8796093022208:=by rw [one_ws m2];exact ws_blen q2 (by have:=z2.1;omega)
      have b1:=z1.2
      have b2:=z2.2
      unfold Dx.m at hX hY
      rw [minI_eq,hX,hY,hmn,val_ws (n:=X) (by omega),val_ws (n:=Y) (by omega)]
      refine ⟨⟨by omega,by omega⟩,⟨by omega,by omega,w1⟩,⟨by omega,by omega⟩,⟨by omega,by omega,w2⟩,br_intro (fun e=>?_) fun e=>br_intro (fun e'=>?_) fun e'=>?_⟩
      · rw [val_ws (by omega)]
        refine ⟨⟨lX,lY⟩,⟨mn0,mn1⟩,rfl,?_⟩
        rw [hsame (by simpa using e)]
      · rw [cmpI_ge] at e'
        rw [val_ws (n:=X-Y) (by omega)]
        refine ⟨⟨e',lX,lY⟩,⟨mn0,mn1⟩,rfl,?_⟩
        rw [hge (by simpa using e) e']
      · have e':¬ Y≤X:=fun h=>by rw [cmpI_ge.2 h] at e';simp at e'
        rw [val_ws (n:=Y-X) (by omega)]
        refine ⟨⟨by omega,lY,lX⟩,⟨mn0,mn1⟩,rfl,?_⟩
        rw [hlt (by simpa using e) (by omega)]⟩
def fTrim:Spec:=specK [.d,.i .i64,.b] fun (d:Dx) (p:Int) (up:Bool)=>(some (d.Sm 34359738368∧0≤p∧p≤1099511627776),dT (cutD d p up))
theorem fTrim_vc(d:Dx)(p:Int)(up:Bool)(Q:Tv→Prop):execF ⟨tys,sF2⟩ (fun _=>none) 0 Tryz.f65 [.agg (dyL false d),.one (.int .i64 p),.one (.bool up)] Q=(eB 4611686018427387904 d∧br (leI (↑(blen (val (oneD d).xs)):Int) p) (Q (Tv.sv (Sv.agg (dyL true (oneD d))))) (inR ((↑(blen (val (oneD d).xs)):Int)-p)∧((0:Int)≤(↑(blen (val (oneD d).xs)):Int)-p∧(↑(blen (val (oneD d).xs)):Int)-p≤9007199254740992)∧br (lostB (val (oneD d).xs) (Int.toNat ((↑(blen (val (oneD d).xs)):Int)-p))) (br (!up == (oneD d).neg) (Word 1∧(List.length (ws (val (oneD d).xs/2^Int.toNat ((↑(blen (val (oneD d).xs)):Int)-p)))≤17592186044414∧List.length (ws 1)≤17592186044414)∧inR ((oneD d).e+(↑(blen (val (oneD d).xs)):Int))∧inR ((oneD d).e+(↑(blen (val (oneD d).xs)):Int)-p)∧((-4611686018427387904:Int)≤(oneD d).e+(↑(blen (val (oneD d).xs)):Int)-p∧(oneD d).e+(↑(blen (val (oneD d).xs)):Int)-p≤4611686018427387904)∧Q (Tv.sv (Sv.agg (dyL true (mkD (oneD d).neg (val (ws (val (ws (val (oneD d).xs/2^Int.toNat ((↑(blen (val (oneD d).xs)):Int)-p)))+val (ws 1)))) ((oneD d).e+(↑(blen (val (oneD d).xs)):Int)-p)))))) (inR ((oneD d).e+(↑(blen (val (oneD d).xs)):Int))∧inR ((oneD d).e+(↑(blen (val (oneD d).xs)):Int)-p)∧((-4611686018427387904:Int)≤(oneD d).e+(↑(blen (val (oneD d).xs)):Int)-p∧(oneD d).e+(↑(blen (val (oneD d).xs)):Int)-p≤4611686018427387904)∧Q (Tv.sv (Sv.agg (dyL true (mkD (oneD d).neg (val (ws (val (oneD d).xs/2^Int.toNat ((↑(blen (val (oneD d).xs)):Int)-p)))) ((oneD d).e+(↑(blen (val (oneD d).xs)):Int)-p))))))) (inR ((oneD d).e+(↑(blen (val (oneD d).xs)):Int))∧inR ((oneD d).e+(↑(blen (val (oneD d).xs)):Int)-p)∧((-4611686018427387904:Int)≤(oneD d).e+(↑(blen (val (oneD d).xs)):Int)-p∧(oneD d).e+(↑(blen (val (oneD d).xs)):Int)-p≤4611686018427387904)∧Q (Tv.sv (Sv.agg (dyL true (mkD (oneD d).neg (val (ws (val (oneD d).xs/2^Int.toNat ((↑(blen (val (oneD d).xs)):Int)-p)))) ((oneD d).e+(↑(blen (val (oneD d).xs)):Int)-p)))))))):=by kernel_rfl
theorem fTrim_ok:SpecOk Tryz.prog 65 fTrim :=
  specK_ok (envOk tys_ok sF2_ok) mixed Tryz.func65 rfl (by decide) (by decide) fun (d:Dx) hd (p:Int) _ (up:Bool) _ hp=>⟨fun _=>none,0,by
    obtain ⟨s1,p0,p1⟩:Dx.Sm 34359738368 d∧0≤p∧p≤1099511627776:=hp
    have m0:=Dx.Wf.m0 hd
    have m1:=oneD_p (d:=d)
    have hodd:=one_odd m0
    obtain ⟨z1,z2,z3⟩:=one_sm m0 s1
    show execF _ _ _ _ _ (fun t=>t=dT (cutX (oneD d) p up))
    refine (fTrim_vc d p up _).mpr ⟨s1.eB (by omega),?_⟩
    generalize oneD d=x at *
    unfold cutX
    unfold Dx.m at m1 z1 hodd ⊢
    refine br_intro (fun h=>?_) fun h=>?_
    · rw [if_pos (by have:=leI_true.1 h;omega)]
    · have h:=leI_false.1 h
      rw [if_neg (by omega)]
      obtain ⟨n,hn⟩:∃ n:Int,(blen (val x.xs):Int)-p=n:=⟨_,rfl⟩
      rw [hn]
      have hmp:0<val x.xs:=by
        by_cases hz:val x.xs=0
        · rw [hz] at h;have e0:blen 0=0:=by simp [blen]
          rw [e0] at h;omega
        · omega
      have hq:0≤val x.xs/2^n.toNat:=Int.ediv_nonneg m1 (by have:=two_pow_pos n.toNat;omega)
      have hql:(ws (val x.xs/2^n.toNat)).length≤1073741825:=ws_blen hq (by
        have:=blen_mono (m:=val x.xs/2^n.toNat) (n:=val x.xs) (Int.ediv_le_self _ m1);omega)
      have hl:lostB (val x.xs) n.toNat=true:=by rw [lostB_tz hmp,tz_odd2 (hodd (by omega)) m1];simp;omega
      have hb:blen (val x.xs)≤68719476736:=by omega
      refine ⟨⟨by omega,by omega⟩,⟨by omega,by omega⟩,br_intro (fun _=>br_intro (fun h'=>?_) fun h'=>?_) fun hf=>by rw [hl] at hf;simp at hf⟩
      · rw [val_ws hq,val_ws_one,val_ws (by omega)]
        refine ⟨word_one,⟨by omega,by simp [ws_one]⟩,⟨by omega,by omega⟩,⟨by omega,by omega⟩,⟨by omega,by omega⟩,?_⟩
        rw [if_neg (by cases up<;>cases hh:x.neg<;>simp_all),show x.e+(blen (val x.xs):Int)-p=x.e+n by omega]
      · rw [val_ws hq]
        refine ⟨⟨by omega,by omega⟩,⟨by omega,by omega⟩,⟨by omega,by omega⟩,?_⟩
        rw [if_pos (by cases up<;>cases hh:x.neg<;>simp_all),Int.add_zero,show x.e+(blen (val x.xs):Int)-p=x.e+n by omega]⟩
def sF3:List (FuncId×Spec):=[(43,fTimes),(41,fPlus),(65,fTrim)] ++ sF2
theorem sF3_ok:SpecsOk Tryz.prog sF3:=⟨fTimes_ok,fPlus_ok,fTrim_ok,sF2_ok⟩
def fLess:Spec:=specK [.d,.d] fun (a:Dx) (b:Dx)=>(some (a.Sm 34359738368∧b.Sm 34359738368),dT (lessD a b))
theorem fLess_vc(a b:Dx)(Q:Tv→Prop):execF ⟨tys,sF3⟩ (fun _=>none) 0 Tryz.f64 [.agg (dyL false a),.agg (dyL false b)] Q=(eB 4611686018427387904 b∧(Dx.Sm 68719476736 a∧Dx.Sm 68719476736 (negD b))∧true=true∧Q (Tv.sv (Sv.agg (dyL true (plusD a (negD b)))))):=by kernel_rfl
theorem fLess_ok:SpecOk Tryz.prog 64 fLess :=
  specK_ok (envOk tys_ok sF3_ok) mixed Tryz.func64 rfl (by decide) (by decide) fun (a:Dx) ha (b:Dx) hb hp=>⟨fun _=>none,0,by
    obtain ⟨s1,s2⟩:Dx.Sm 34359738368 a∧Dx.Sm 34359738368 b:=hp
    exact (fLess_vc a b _).mpr ⟨s2.eB (by omega),⟨s1.mono (by omega),(negD_sm s2 (Dx.Wf.m0 hb)).mono (by omega)⟩,rfl,rfl⟩⟩
def sF4:List (FuncId×Spec):=[(64,fLess)] ++ sF3
theorem sF4_ok:SpecsOk Tryz.prog sF4:=⟨fLess_ok,sF3_ok⟩
def fOrder:Spec:=specK [.d,.d] fun (a:Dx) (b:Dx)=>(some (a.Sm 34359738368∧b.Sm 34359738368),iT (cmpD a b))
theorem fOrder_vc(a b:Dx)(Q:Tv→Prop):execF ⟨tys,sF4⟩ (fun _=>none) 0 Tryz.f39 [.agg (dyL false a),.agg (dyL false b)] Q=(true=true∧br (ltI (Dx.sgn a) (Dx.sgn b)) (Q (Tv.sv (Sv.one (At.int IntKind.i64 (-1))))) (br (ltI (Dx.sgn b) (Dx.sgn a)) (Q (Tv.sv (Sv.one (At.int IntKind.i64 1)))) (br (eqI (Dx.sgn a) 0) (Q (Tv.sv (Sv.one (At.int IntKind.i64 0)))) (eB 2305843009213693952 a∧eB 2305843009213693952 b∧true=true∧br (neI (a.e+(↑(blen (Dx.m a)):Int)-1) (b.e+(↑(blen (Dx.m b)):Int)-1)) (br (ltI (b.e+(↑(blen (Dx.m b)):Int)-1) (a.e+(↑(blen (Dx.m a)):Int)-1)) (Q (Tv.sv (Sv.one (At.int IntKind.i64 (Dx.sgn a))))) (inR ((0:Int)-Dx.sgn a)∧Q (Tv.sv (Sv.one (At.int IntKind.i64 ((0:Int)-Dx.sgn a)))))) ((Dx.Sm 34359738368 a∧Dx.Sm 34359738368 b)∧Q (Tv.sv (Sv.one (At.int IntKind.i64 (Dx.sgn (lessD a b)))))))))):=by kernel_rfl
theorem fOrder_ok:SpecOk Tryz.prog 39 fOrder :=
  specK_ok (envOk tys_ok sF4_ok) mixed Tryz.func39 rfl (by decide) (by decide) fun (a:Dx) ha (b:Dx) hb hp=>⟨fun _=>none,0,by
    obtain ⟨s1,s2⟩:Dx.Sm 34359738368 a∧Dx.Sm 34359738368 b:=hp
    have m1:=Dx.Wf.m0 ha
    have m2:=Dx.Wf.m0 hb
    have c1:=sgn_cases (d:=a)
    show execF _ _ _ _ _ (fun t=>t=iT (cmpD a b))
    refine (fOrder_vc a b _).mpr ⟨rfl,br_intro (fun h=>?_) fun h=>br_intro (fun h'=>?_) fun h'=>br_intro (fun h0=>?_) fun h0=>?_⟩
    · rw [cmpD_lt m1 m2 (ltI_true.1 h)]
    · rw [cmpD_gt m1 m2 (ltI_true.1 h')]
    · rw [ltI_false] at h h';rw [eqI_true] at h0
      rw [cmpD_zero m1 m2 h0 (by omega)]
    · rw [ltI_false] at h h';rw [eqI_false] at h0
      have hs:a.sgn=b.sgn:=by omega
      obtain ⟨t1,t2⟩:=cmpD_top m1 m2 hs h0
      refine ⟨s1.eB (by omega),s2.eB (by omega),rfl,br_intro (fun e=>br_intro (fun e'=>?_) fun e'=>?_) fun e=>?_⟩
      · rw [t2 (ltI_true.1 e')]
      · rw [ltI_false] at e';rw [neI_true] at e
        refine ⟨⟨by omega,by omega⟩,?_⟩
        rw [t1 (by omega),Int.zero_sub]
      · exact ⟨⟨s1,s2⟩,by rw [sgn_less m1 m2]⟩⟩
def sF5:List (FuncId×Spec):=[(39,fOrder)] ++ sF4
theorem sF5_ok:SpecsOk Tryz.prog sF5:=⟨fOrder_ok,sF4_ok⟩
def sRef4:List (FuncId×Spec):=[] ++ sF5
theorem sRef4_ok:SpecsOk Tryz.prog sRef4:=sF5_ok
theorem p2_le{a b:Int}(h:a≤b):p2 a≤p2 b:=by
  have e:p2 b=p2 a*p2 (b-a):=by rw [←p2_add];congr 1;omega
  have h1:(1:Rat)≤p2 (b-a):=by
    rw [p2_toNat (by omega)]
    have:=two_pow_pos (b-a).toNat
    exact (Rat.intCast_le_intCast (a:=1)).2 (by omega)
  have:=rmL h1 (rlL (p2_pos a))
  rw [e];grind
theorem p2_one:p2 1=2:=by decide
theorem p2_lt{a b:Int}(h:a<b):p2 a<p2 b:=by
  have h1:=p2_le (a:=a+1) (b:=b) (by omega)
  rw [p2_add,p2_one] at h1
  have:=p2_pos a
  grind
theorem p2_lt_iff{a b:Int}:p2 a<p2 b↔a<b:=by
  refine ⟨fun h=>?_,p2_lt⟩
  by_cases k:a<b
  · exact k
  · have:=p2_le (a:=b) (b:=a) (by omega);grind
theorem amt_ge{m e:Int}(h:0<m):p2 (e+(blen m:Int)-1)≤(m:Rat)*p2 e:=by
  have h1:=blen_ge h
  have h2:=blen_pos h
  have e1:e+(blen m:Int)-1=((blen m-1:Nat):Int)+e:=by omega
  rw [e1,p2_add,p2_nat]
  exact rmR (Rat.intCast_le_intCast.2 h1) (rlL (p2_pos e))
theorem amt_lt{m e:Int}:(m:Rat)*p2 e<p2 (e+(blen m:Int)):=by
  have h1:=blen_lt m
  rw [Int.add_comm,p2_add,p2_nat]
  exact (Rat.mul_lt_mul_right (p2_pos e)).2 (Rat.intCast_lt_intCast.2 h1)
theorem rv_amt{d:Dx}(h:0≤d.m):(0≤d.rv→d.rv=(d.m:Rat)*p2 d.e)∧(d.rv≤0→-d.rv=(d.m:Rat)*p2 d.e):=by
  have p:=p2_pos d.e
  have q:0≤(d.m:Rat)*p2 d.e:=rmN (Rat.intCast_nonneg.2 h) (rlL p)
  unfold Dx.rv Dx.sm
  cases d.neg with
  | false=>simp only [Bool.false_eq_true,if_false];grind
  | true=>simp only [if_true,Rat.intCast_neg];grind
def Mul2(K:Int)(x:Rat):Prop:=∃ s:Int,x=(s:Rat)*p2 K
theorem sgn_zero2{d:Dx}:d.sgn=0↔d.m=0:=by
  unfold Dx.sgn;split
  · simp_all
  · split<;>simp_all
theorem zeroB_rv{d:Dx}(h:0≤d.m):d.zeroB=true↔d.rv=0:=by
  rw [zeroB_true,←sgn_zero2]
  rcases sgn_rv h with ⟨a,b⟩|⟨a,b⟩|⟨a,b⟩<;>rw [a]<;>simp<;>grind
def Rp(p:Int)(x:Rat):Prop:=∃ s e:Int,x=(s:Rat)*p2 e∧(s:Rat)<p2 p∧-(p2 p)<(s:Rat)
def Dn(p:Int)(q r:Rat):Prop:=Rp p r∧r≤q∧∀ t,Rp p t→t≤q→t≤r
def Up(p:Int)(q r:Rat):Prop:=Rp p r∧q≤r∧∀ t,Rp p t→q≤t→r≤t
theorem Rp.neg{p:Int}{x:Rat}:Rp p x→Rp p (-x)
  | ⟨s,e,h,h1,h2⟩=>⟨-s,e,by rw [h,Rat.intCast_neg,Rat.neg_mul],by rw [Rat.intCast_neg];grind,by rw [Rat.intCast_neg];grind⟩
theorem Rp.zero(p:Int):Rp p 0:=by have:=p2_pos p;exact ⟨0,0,by simp,by simpa using this,by simp;grind⟩
theorem Up.neg{p:Int}{q r:Rat}(h:Up p q r):Dn p (-q) (-r) :=
  ⟨h.1.neg,by have:=h.2.1;grind,fun t ht hq=>by have:=h.2.2 (-t) ht.neg (by grind);grind⟩
theorem Dn.neg{p:Int}{q r:Rat}(h:Dn p q r):Up p (-q) (-r) :=
  ⟨h.1.neg,by have:=h.2.1;grind,fun t ht hq=>by have:=h.2.2 (-t) ht.neg (by grind);grind⟩
theorem Dn.mono{p:Int}{q q' r r':Rat}(h:Dn p q r)(h':Dn p q' r')(hq:q≤q'):r≤r':=h'.2.2 r h.1 (by have:=h.2.1;grind)
theorem Up.mono{p:Int}{q q' r r':Rat}(h:Up p q r)(h':Up p q' r')(hq:q≤q'):r≤r':=h.2.2 r' h'.1 (by have:=h'.2.1;grind)
theorem Dn.uniq{p:Int}{q r r':Rat}(h:Dn p q r)(h':Dn p q r'):r=r':=Rat.le_antisymm (h.mono h' (by grind)) (h'.mono h (by grind))
theorem Up.uniq{p:Int}{q r r':Rat}(h:Up p q r)(h':Up p q r'):r=r':=Rat.le_antisymm (h.mono h' (by grind)) (h'.mono h (by grind))
theorem Dn.self{p:Int}{q:Rat}(h:Rp p q):Dn p q q:=⟨h,by grind,fun _ _ h=>h⟩
theorem Up.self{p:Int}{q:Rat}(h:Rp p q):Up p q q:=⟨h,by grind,fun _ _ h=>h⟩
theorem rp_grid{p j:Int}{t:Rat}(ht:Rp p t)(h:p2 (j+p-1)≤t):Mul2 j t:=by
  obtain ⟨s,e,rfl,h1,h2⟩:=ht
  have h3:p2 (j+p-1)<p2 (p+e):=by
    rw [p2_add p e]
    have:=(Rat.mul_lt_mul_right (p2_pos e)).2 h1
    grind
  have h4:=p2_lt_iff.1 h3
  exact ⟨s*2^(e-j).toNat,by rw [rcM,←p2_toNat (by omega),Rat.mul_assoc,p2_sub]⟩
theorem cast_lt{a b:Int}:(a:Rat)<(b:Rat)↔a<b:=Rat.intCast_lt_intCast
theorem cast_le{a b:Int}:(a:Rat)≤(b:Rat)↔a≤b:=Rat.intCast_le_intCast
theorem mul_p2_lt{a b:Rat}(j:Int):a*p2 j<b*p2 j↔a<b:=Rat.mul_lt_mul_right (p2_pos j)
theorem mul_p2_le{a b:Rat}(j:Int):a*p2 j≤b*p2 j↔a≤b:=by rw [←Rat.not_lt,←Rat.not_lt,mul_p2_lt]
theorem Mul2.near{j k:Int}{t:Rat}(h:Mul2 j t)(hl:t<((k+1:Int):Rat)*p2 j):t≤(k:Rat)*p2 j:=by
  obtain ⟨s,rfl⟩:=h
  rw [mul_p2_lt,cast_lt] at hl
  rw [mul_p2_le,cast_le];omega
theorem dn_grid{p j k:Int}{q:Rat}(hp:1≤p)(h1:(k:Rat)*p2 j≤q)(h2:q<((k+1:Int):Rat)*p2 j)(h3:p2 (j+p-1)≤q)(h4:q<p2 (j+p)):Dn p q ((k:Rat)*p2 j):=by
  have e1:p2 (j+p)=p2 p*p2 j:=by rw [Int.add_comm,p2_add]
  have e2:p2 (j+p-1)=((2^(p-1).toNat:Int):Rat)*p2 j:=by rw [←p2_toNat (by omega),←p2_add];congr 1;omega
  have k1:(k:Rat)<p2 p:=by rw [←mul_p2_lt j,←e1];grind
  have k2:(2:Int)^(p-1).toNat<k+1:=by rw [←cast_lt,←mul_p2_lt j,←e2];grind
  have k3:=two_pow_pos (p-1).toNat
  have k4:(0:Rat)≤(k:Rat):=by rw [show (0:Rat)=((0:Int):Rat) from rfl,cast_le];omega
  have p0:=p2_pos p
  refine ⟨⟨k,j,rfl,k1,by grind⟩,h1,fun t ht hq=>?_⟩
  by_cases hc:p2 (j+p-1)≤t
  · exact (rp_grid ht hc).near (by grind)
  · have:((2^(p-1).toNat:Int):Rat)*p2 j≤(k:Rat)*p2 j:=by rw [mul_p2_le,cast_le];omega
    grind
theorem up_grid{p j k:Int}{q:Rat}(hp:1≤p)(h1:((k-1:Int):Rat)*p2 j<q)(h2:q≤(k:Rat)*p2 j)(h3:p2 (j+p-1)≤q)(h4:q≤p2 (j+p)):Up p q ((k:Rat)*p2 j):=by
  have e1:p2 (j+p)=((2^p.toNat:Int):Rat)*p2 j:=by rw [←p2_toNat (by omega),←p2_add];congr 1;omega
  have k1:k-1<2^p.toNat:=by rw [←cast_lt,←mul_p2_lt j,←e1];grind
  have q0:0<q:=by have:=p2_pos (j+p-1);grind
  have k2:0<k:=by
    have:((0:Int):Rat)*p2 j<(k:Rat)*p2 j:=by rw [show ((0:Int):Rat)*p2 j=0 by simp];grind
    rwa [mul_p2_lt,cast_lt] at this
  have p0:=p2_pos p
  refine ⟨?_,h2,fun t ht hq=>?_⟩
  · by_cases hk:k=2^p.toNat
    · refine ⟨1,j+p,by rw [hk,e1];simp,?_,?_⟩
      · have:=p2_lt (a:=0) (b:=p) (by omega)
        rw [p2_zero] at this;exact this
      · have:((1:Int):Rat)=1:=rfl
        rw [this];grind
    · refine ⟨k,j,rfl,?_,?_⟩
      · rw [p2_toNat (by omega),cast_lt];omega
      · have:((0:Int):Rat)<(k:Rat):=cast_lt.2 k2
        have e0:((0:Int):Rat)=0:=rfl
        rw [e0] at this;grind
  · obtain ⟨s,rfl⟩:=rp_grid (j:=j) ht (by grind)
    have:((k-1:Int):Rat)*p2 j<(s:Rat)*p2 j:=by grind
    rw [mul_p2_lt,cast_lt] at this
    rw [mul_p2_le,cast_le];omega
theorem rp_small{s e p:Int}(h0:0≤s)(h:(blen s:Int)≤p):Rp p ((s:Rat)*p2 e):=by
  refine ⟨s,e,rfl,?_,?_⟩
  · rw [p2_toNat (by omega),cast_lt]
    have:=blen_lt s
    have:=two_pow_le (j:=blen s) (k:=p.toNat) (by omega)
    omega
  · have:=p2_pos p
    have:((0:Int):Rat)≤(s:Rat):=cast_le.2 h0
    have e0:((0:Int):Rat)=0:=rfl
    rw [e0] at this;grind
theorem cutX_best{x:Dx}{p:Int}(hx:0≤x.m)(hodd:x.m≠0→x.m % 2=1)(hp:1≤p):Dn p x.rv (cutX x p false).rv∧Up p x.rv (cutX x p true).rv:=by
  unfold cutX
  by_cases hn:(blen x.m:Int)-p≤0
  · rw [if_pos hn,if_pos hn]
    have hr:Rp p x.rv:=by
      have:=rp_small (e:=x.e) hx (show (blen x.m:Int)≤p by omega)
      rcases (show 0≤x.rv∨x.rv≤0 by grind) with h | h
      · rw [(rv_amt hx).1 h];exact this
      · have e:=(rv_amt hx).2 h
        rw [show x.rv = -((x.m:Rat)*p2 x.e) by grind];exact this.neg
    exact ⟨.self hr,.self hr⟩
  · rw [if_neg hn,if_neg hn]
    obtain ⟨n,hN⟩:∃ n:Int,(blen x.m:Int)-p=n:=⟨_,rfl⟩
    rw [hN] at hn ⊢
    have hm:0<x.m:=by
      by_cases hz:x.m=0
      · rw [hz] at hN;simp [blen] at hN;omega
      · omega
    have hp2:=two_pow_pos n.toNat
    have hev:(2:Int)^n.toNat=2*2^(n.toNat-1):=by
      obtain ⟨k,hk⟩:∃ k,n.toNat=k+1:=⟨n.toNat-1,by omega⟩
      rw [hk,Int.pow_succ,Nat.add_sub_cancel];omega
    have d1:=Int.mul_ediv_add_emod x.m (2^n.toNat)
    have d2:=Int.emod_nonneg x.m (show (2:Int)^n.toNat≠0 by omega)
    have d3:=Int.emod_lt_of_pos x.m hp2
    have d4:x.m % 2^n.toNat≠0:=by
      intro h0
      have h1:=hodd (by omega)
      rw [h0,Int.add_zero,hev,Int.mul_assoc] at d1
      omega
    generalize x.m/2^n.toNat=k at *
    have k0:0≤k:=by
      by_cases hk:0≤k
      · exact hk
      · have:2^n.toNat*k≤2^n.toNat*(-1):=imL (by omega) (by omega)
        omega
    have eq1:(x.m:Rat)*p2 x.e=((2^n.toNat*k+x.m % 2^n.toNat:Int):Rat)*p2 x.e:=by rw [d1]
    have ej:∀ c:Int,(c:Rat)*p2 (x.e+n)=((2^n.toNat*c:Int):Rat)*p2 x.e:=fun c=>by
      rw [Int.add_comm,p2_add,p2_toNat (n:=n) (by omega),rcM];grind
    have b1:(k:Rat)*p2 (x.e+n)≤(x.m:Rat)*p2 x.e:=by rw [ej,eq1,mul_p2_le,cast_le];omega
    have b1':(k:Rat)*p2 (x.e+n)<(x.m:Rat)*p2 x.e:=by rw [ej,eq1,mul_p2_lt,cast_lt];omega
    have b2:(x.m:Rat)*p2 x.e<((k+1:Int):Rat)*p2 (x.e+n):=by rw [ej,eq1,mul_p2_lt,cast_lt,Int.mul_add,Int.mul_one];omega
    have a1:=amt_ge (e:=x.e) hm
    have a2:=amt_lt (m:=x.m) (e:=x.e)
    rw [show x.e+(blen x.m:Int)-1=x.e+n+p-1 by omega] at a1
    rw [show x.e+(blen x.m:Int)=x.e+n+p by omega] at a2
    have DN:=dn_grid hp b1 b2 a1 a2
    have UP:=up_grid (k:=k+1) hp (by rw [Int.add_sub_cancel];exact b1') (rlL b2) a1 (rlL a2)
    rw [show ((k+1:Int):Rat)=(k:Rat)+1 by rw [rcA];rfl] at UP
    cases hneg:x.neg with
    | false =>
      have e:x.rv=(x.m:Rat)*p2 x.e:=by unfold Dx.rv Dx.sm;rw [hneg];simp
      rw [rv_mkD (by simp;omega),rv_mkD (by simp;omega),e]
      simpa using ⟨DN,UP⟩
    | true =>
      have e:x.rv = -((x.m:Rat)*p2 x.e):=by unfold Dx.rv Dx.sm;rw [hneg];simp [Rat.neg_mul]
      rw [rv_mkD (by simp;omega),rv_mkD (by simp;omega),e]
      have:=UP.neg
      have h2:=DN.neg
      simpa [Rat.neg_mul] using ⟨this,h2⟩
theorem cutD_best{d:Dx}{p:Int}(hd:0≤d.m)(hp:1≤p):Dn p d.rv (cutD d p false).rv∧Up p d.rv (cutD d p true).rv:=by
  have:=cutX_best (x:=oneD d) oneD_p (one_odd hd) hp
  rw [rv_one hd] at this
  exact this
theorem Dn.move{p:Int}{A B u v z:Rat}(hA:A<u)(hB:u<B)(hA':A<v)(hB':v<B)(hno:∀ t,Rp p t→A<t→t<B→False)(h:Dn p u z):Dn p v z:=by
  have z1:z≤A:=by
    rcases (show z≤A∨A<z by grind) with h1 | h1
    · exact h1
    · exact (hno z h.1 h1 (by have:=h.2.1;grind)).elim
  refine ⟨h.1,by grind,fun t ht hq=>?_⟩
  rcases (show t≤A∨A<t by grind) with h1 | h1
  · exact h.2.2 t ht (by grind)
  · exact (hno t ht h1 (by grind)).elim
theorem Up.move{p:Int}{A B u v z:Rat}(hA:A<u)(hB:u<B)(hA':A<v)(hB':v<B)(hno:∀ t,Rp p t→A<t→t<B→False)(h:Up p u z):Up p v z:=by
  have z1:B≤z:=by
    rcases (show B≤z∨z<B by grind) with h1 | h1
    · exact h1
    · exact (hno z h.1 (by have:=h.2.1;grind) h1).elim
  refine ⟨h.1,by grind,fun t ht hq=>?_⟩
  rcases (show B≤t∨t<B by grind) with h1 | h1
  · exact h.2.2 t ht (by grind)
  · exact (hno t ht (by grind) h1).elim
theorem no_rp{p E Q:Int}(hQ:(2:Int)^(p-1).toNat≤Q)(hp:1≤p){t:Rat}(ht:Rp p t)(h1:(Q:Rat)*p2 (E+1)<t)(h2:t<((Q+1:Int):Rat)*p2 (E+1)):False:=by
  have e1:p2 (E+1+p-1)=((2^(p-1).toNat:Int):Rat)*p2 (E+1):=by rw [←p2_toNat (by omega),←p2_add];congr 1;omega
  have e2:((2^(p-1).toNat:Int):Rat)*p2 (E+1)≤(Q:Rat)*p2 (E+1):=by rw [mul_p2_le,cast_le];exact hQ
  have:=(rp_grid (j:=E+1) ht (by grind)).near h2
  grind
theorem two_p2(E:Int):p2 (E+1)=2*p2 E:=by rw [Int.add_comm,p2_add,p2_one]
theorem sticky_rv(Q:Int)(b:Bool)(E:Int):((stickyM Q b:Int):Rat)*p2 E=(Q:Rat)*p2 (E+1)+(if b then p2 E else 0):=by
  unfold stickyM
  rw [two_p2,rcA,rcM]
  have e2:((2:Int):Rat)=2:=rfl
  rw [e2]
  cases b<;>simp<;>grind
theorem sticky_best{p E Q:Int}{q:Rat}{b:Bool}(hp:1≤p)(hQ:(2:Int)^(p-1).toNat≤Q)(h1:b=false→q=(Q:Rat)*p2 (E+1))(h2:b=true→(Q:Rat)*p2 (E+1)<q∧q<((Q+1:Int):Rat)*p2 (E+1)) :
    (∀ z,Dn p (((stickyM Q b:Int):Rat)*p2 E) z→Dn p q z)∧(∀ z,Up p (((stickyM Q b:Int):Rat)*p2 E) z→Up p q z):=by
  rw [sticky_rv]
  cases b with
  | false=>simp only [Bool.false_eq_true,if_false,Rat.add_zero];rw [←h1 rfl];exact ⟨fun _ h=>h,fun _ h=>h⟩
  | true =>
    obtain ⟨a1,a2⟩:=h2 rfl
    simp only [if_true]
    have p0:=p2_pos E
    have e1:((Q+1:Int):Rat)*p2 (E+1)=(Q:Rat)*p2 (E+1)+2*p2 E:=by
      rw [rcA,two_p2]
      have e2:((1:Int):Rat)=1:=rfl
      rw [e2];grind
    have hno:∀ t,Rp p t→(Q:Rat)*p2 (E+1)<t→t<((Q+1:Int):Rat)*p2 (E+1)→False:=fun t ht k1 k2=>no_rp hQ hp ht k1 k2
    exact ⟨fun z h=>h.move (A:=(Q:Rat)*p2 (E+1)) (B:=((Q+1:Int):Rat)*p2 (E+1)) (by grind) (by grind) a1 a2 hno,fun z h=>h.move (A:=(Q:Rat)*p2 (E+1)) (B:=((Q+1:Int):Rat)*p2 (E+1)) (by grind) (by grind) a1 a2 hno⟩
theorem sm_amt(d:Dx):d.rv=(if d.neg then -1 else 1)*((d.m:Rat)*p2 d.e):=by
  unfold Dx.rv Dx.sm
  cases d.neg<;>simp [Rat.neg_mul]
theorem cast_ne{a:Int}(h:0<a):(0:Rat)<(a:Rat):=by
  have:=cast_lt.2 h
  have e0:((0:Int):Rat)=0:=rfl
  rwa [e0] at this
theorem over_best{a b:Dx}{p:Int}{q:Rat}(ha:0≤a.m)(hb:0≤b.m)(hb0:b.m≠0)(hp:1≤p)(hq:q*b.rv=a.rv):Dn p q (overD a b p false).rv∧Up p q (overD a b p true).rv:=by
  unfold overD overX
  have m1:=oneD_p (d:=a)
  have m2:=oneD_p (d:=b)
  have m20:(oneD b).m≠0:=fun h=>hb0 ((mkD_m_zero hb).1 h)
  rw [←rv_one ha,←rv_one hb] at hq
  generalize oneD a=x at *
  generalize oneD b=y at *
  have ypos:0<y.m:=by omega
  by_cases hx0:x.m=0
  · rw [if_pos hx0,if_pos hx0]
    have e0:x.rv=0:=rv_zero hx0
    have y0:y.rv≠0:=by
      rw [sm_amt]
      have:=Rat.mul_pos (cast_ne ypos) (p2_pos y.e)
      cases y.neg<;>simp<;>grind
    have q0:q=0:=by
      rw [e0] at hq
      rcases Rat.mul_eq_zero.1 hq with h | h
      · exact h
      · exact absurd h y0
    rw [q0,show (⟨false,[],0⟩:Dx).rv=0 from rv_zero rfl]
    exact ⟨.self (.zero p),.self (.zero p)⟩
  · rw [if_neg hx0,if_neg hx0]
    have xpos:0<x.m:=by omega
    obtain ⟨k,hk⟩:∃ k:Int,max (p+2+(blen y.m:Int)-(blen x.m:Int)) 0=k:=⟨_,rfl⟩
    rw [hk]
    have pk:=two_pow_pos k.toNat
    have hM:0<x.m*2^k.toNat:=Int.mul_pos xpos pk
    have hMb:blen (x.m*2^k.toNat)=blen x.m+k.toNat:=blen_mul_pow xpos _
    have g1:=blen_ge hM
    have g2:=blen_lt y.m
    obtain ⟨M,hMe⟩:∃ M,x.m*2^k.toNat=M:=⟨_,rfl⟩
    rw [hMe] at hM hMb g1 ⊢
    have hQ:(2:Int)^(p-1).toNat≤M/y.m:=by
      rw [Int.le_ediv_iff_mul_le ypos]
      have bx:=blen_pos xpos
      have e1:(2:Int)^(blen M-1)=2^(blen M-1-blen y.m)*2^blen y.m:=by rw [←Int.pow_add];congr 1;omega
      have e2:=two_pow_le (j:=(p-1).toNat) (k:=blen M-1-blen y.m) (by omega)
      have e3:(2:Int)^(p-1).toNat*y.m≤2^(blen M-1-blen y.m)*2^blen y.m:=by
        have:=two_pow_pos (p-1).toNat
        exact Int.mul_le_mul e2 (Int.le_of_lt g2) m2 (by have:=two_pow_pos (blen M-1-blen y.m);omega)
      omega
    have d1:=Int.mul_ediv_add_emod M y.m
    have d2:=Int.emod_nonneg M m20
    have d3:=Int.emod_lt_of_pos M ypos
    generalize M/y.m=Q at *
    obtain ⟨q',hq'⟩:∃ q':Rat,q'=(if (!(x.neg == y.neg)) then -1 else 1)*q:=⟨_,rfl⟩
    have hqa:q' * (y.m:Rat)=(M:Rat)*p2 (x.e-y.e-k):=by
      rw [sm_amt,sm_amt x] at hq
      have e1:p2 x.e=p2 (x.e-y.e-k)*(p2 y.e*p2 k):=by rw [←p2_add,←p2_add];congr 1;omega
      have e2:(M:Rat)=(x.m:Rat)*p2 k:=by rw [←hMe,rcM,←p2_toNat (by omega)]
      have h1:q' * ((y.m:Rat)*p2 y.e)=(x.m:Rat)*p2 x.e:=by
        rw [hq']
        cases hx:x.neg<;>cases hy:y.neg<;>rw [hx,hy] at hq<;>simp at hq ⊢<;>grind
      rw [e1] at h1
      have p0:=p2_pos y.e
      have h2:(q' * (y.m:Rat))*p2 y.e=((M:Rat)*p2 (x.e-y.e-k))*p2 y.e:=by rw [e2];grind
      have h3:q' * (y.m:Rat)≤(M:Rat)*p2 (x.e-y.e-k):=by rw [←mul_p2_le y.e];grind
      have h4:(M:Rat)*p2 (x.e-y.e-k)≤q' * (y.m:Rat):=by rw [←mul_p2_le y.e];grind
      exact Rat.le_antisymm h3 h4
    have y0:=cast_ne ypos
    have cmp:∀ c:Int,(c:Rat)*p2 (x.e-y.e-k)*(y.m:Rat)=((y.m*c:Int):Rat)*p2 (x.e-y.e-k):=fun c=>by rw [rcM];grind
    have key:=sticky_best (p:=p) (E:=x.e-y.e-k-1) (Q:=Q) (q:=q') (b:=decide (M % y.m≠0)) hp hQ (fun hb=>by
        have hr:M % y.m=0:=by simpa using hb
        rw [hr,Int.add_zero] at d1
        rw [show x.e-y.e-k-1+1=x.e-y.e-k by omega]
        have e:=cmp Q
        rw [d1,←hqa] at e
        have h3:q'≤(Q:Rat)*p2 (x.e-y.e-k):=by rw [←Rat.not_lt,←Rat.mul_lt_mul_right y0];grind
        have h4:(Q:Rat)*p2 (x.e-y.e-k)≤q':=by rw [←Rat.not_lt,←Rat.mul_lt_mul_right y0];grind
        exact Rat.le_antisymm h3 h4) (fun hb=>by
        have hr:M % y.m≠0:=by simpa using hb
        rw [show x.e-y.e-k-1+1=x.e-y.e-k by omega]
        constructor
        · rw [←Rat.mul_lt_mul_right y0,cmp,hqa,mul_p2_lt,cast_lt];omega
        · rw [←Rat.mul_lt_mul_right y0,cmp,hqa,mul_p2_lt,cast_lt,Int.mul_add,Int.mul_one];omega)
    have hS:=(sticky_blen (q:=Q) (b:=decide (M % y.m≠0)) (by have:=two_pow_pos (p-1).toNat;omega)).1
    have best:=cutD_best (d:=mkD (!(x.neg == y.neg)) (stickyM Q (decide (M % y.m≠0))) (x.e-y.e-k-1)) mkD_p hp
    rw [rv_mkD hS] at best
    cases hs:(!(x.neg == y.neg)) with
    | false =>
      rw [hs] at best hq'
      simp only [Bool.false_eq_true,if_false] at best hq'
      have:q'=q:=by grind
      rw [this] at key
      exact ⟨key.1 _ best.1,key.2 _ best.2⟩
    | true =>
      rw [hs] at best hq'
      simp only [if_true,Rat.intCast_neg,Rat.neg_mul] at best hq'
      have e1:q = -q':=by grind
      have b1:=best.1.neg
      have b2:=best.2.neg
      rw [Rat.neg_neg] at b1 b2
      have c1:=(key.2 _ b1).neg
      have c2:=(key.1 _ b2).neg
      rw [Rat.neg_neg] at c1 c2
      rw [e1]
      exact ⟨c1,c2⟩
def DnS(p:Int)(a z:Rat):Prop:=Rp p z∧0≤z∧z*z≤a∧∀ t,Rp p t→0≤t→t*t≤a→t≤z
def UpS(p:Int)(a z:Rat):Prop:=Rp p z∧0≤z∧a≤z*z∧∀ t,Rp p t→0≤t→a≤t*t→z≤t
theorem rsq_le{x y:Rat}(hx:0≤x)(h:x≤y):x*x≤y*y:=by
  have h1:=rmL h hx
  have h2:=rmR h (show 0≤y by grind)
  grind
theorem rsq_lt{x y:Rat}(hx:0≤x)(h:x<y):x*x<y*y:=by
  have h1:=rmL (rlL h) hx
  have h2:=(Rat.mul_lt_mul_right (show 0<y by grind)).2 h
  grind
theorem rle_of_sq{x y:Rat}(hy:0≤y)(h:x*x≤y*y):x≤y:=by
  rcases (show x≤y∨y<x by grind) with h1 | h1
  · exact h1
  · have:=rsq_lt hy h1;grind
theorem rlt_of_sq{x y:Rat}(hy:0≤y)(h:x*x<y*y):x<y:=by
  rcases (show x<y∨y≤x by grind) with h1 | h1
  · exact h1
  · have:=rsq_le hy h1;grind
theorem Dn.sqrt_eq{p:Int}{a u z:Rat}(hu:0≤u)(e:a=u*u)(h:Dn p u z):DnS p a z:=by
  have z0:=h.2.2 0 (.zero p) hu
  exact ⟨h.1,z0,by rw [e];exact rsq_le z0 h.2.1,fun t ht t0 k=>h.2.2 t ht (rle_of_sq hu (by rw [←e];exact k))⟩
theorem Up.sqrt_eq{p:Int}{a u z:Rat}(hu:0≤u)(e:a=u*u)(h:Up p u z):UpS p a z:=by
  have z0:0≤z:=by have:=h.2.1;grind
  exact ⟨h.1,z0,by rw [e];exact rsq_le hu h.2.1,fun t ht t0 k=>h.2.2 t ht (rle_of_sq t0 (by rw [←e];exact k))⟩
theorem Dn.sqrt{p:Int}{A B a u z:Rat}(A0:0≤A)(hA:A<u)(hB:u<B)(hA':A*A<a)(hB':a<B*B)(hno:∀ t,Rp p t→A<t→t<B→False)(h:Dn p u z):DnS p a z:=by
  have z0:=h.2.2 0 (.zero p) (by grind)
  have z1:z≤A:=by
    rcases (show z≤A∨A<z by grind) with h1 | h1
    · exact h1
    · exact (hno z h.1 h1 (by have:=h.2.1;grind)).elim
  refine ⟨h.1,z0,by have:=rsq_le z0 z1;grind,fun t ht t0 k=>?_⟩
  have tB:t<B:=rlt_of_sq (by grind) (by grind)
  rcases (show t≤A∨A<t by grind) with h1 | h1
  · exact h.2.2 t ht (by grind)
  · exact (hno t ht h1 tB).elim
theorem Up.sqrt{p:Int}{A B a u z:Rat}(A0:0≤A)(hA:A<u)(hB:u<B)(hA':A*A<a)(hB':a<B*B)(hno:∀ t,Rp p t→A<t→t<B→False)(h:Up p u z):UpS p a z:=by
  have z1:B≤z:=by
    rcases (show B≤z∨z<B by grind) with h1 | h1
    · exact h1
    · exact (hno z h.1 (by have:=h.2.1;grind) h1).elim
  refine ⟨h.1,by grind,by have:=rsq_le (show 0≤B by grind) z1;grind,fun t ht t0 k=>?_⟩
  have tA:A<t:=rlt_of_sq t0 (by grind)
  rcases (show B≤t∨t<B by grind) with h1 | h1
  · exact h.2.2 t ht (by grind)
  · exact (hno t ht tA h1).elim
theorem DnS.mono{p:Int}{a a' z z':Rat}(h:DnS p a z)(h':DnS p a' z')(ha:a≤a'):z≤z':=h'.2.2.2 z h.1 h.2.1 (by have:=h.2.2.1;grind)
theorem UpS.mono{p:Int}{a a' z z':Rat}(h:UpS p a z)(h':UpS p a' z')(ha:a≤a'):z≤z':=h.2.2.2 z' h'.1 h'.2.1 (by have:=h'.2.2.1;grind)
theorem root_best{a:Dx}{p:Int}(ha:0≤a.m)(hn:0≤a.rv)(hp:1≤p):DnS p a.rv (rootD a p false).rv∧UpS p a.rv (rootD a p true).rv:=by
  unfold rootD rootX
  have m1:=oneD_p (d:=a)
  rw [←rv_one ha] at hn ⊢
  generalize oneD a=x at *
  by_cases hx0:x.m=0
  · rw [if_pos hx0,if_pos hx0,rv_zero hx0]
    exact ⟨Dn.sqrt_eq (u:=0) (by grind) (by grind) (.self (.zero p)),Up.sqrt_eq (u:=0) (by grind) (by grind) (.self (.zero p))⟩
  · rw [if_neg hx0,if_neg hx0]
    have xpos:0<x.m:=by omega
    have ex:=(rv_amt m1).1 hn
    obtain ⟨k,hk⟩:∃ k:Int,rootK x p=k:=⟨_,rfl⟩
    have hk':=hk
    unfold rootK at hk'
    rw [hk]
    have k0:0≤k:=by omega
    obtain ⟨h,hh⟩:∃ h:Int,x.e-k=2*h:=⟨(x.e-k)/2,by omega⟩
    have eh:(x.e-k)/2-1=h-1:=by omega
    rw [eh]
    have pk:=two_pow_pos k.toNat
    have hM:0<x.m*2^k.toNat:=Int.mul_pos xpos pk
    have hMb:blen (x.m*2^k.toNat)=blen x.m+k.toNat:=blen_mul_pow xpos _
    have g1:=blen_ge hM
    obtain ⟨M,hMe⟩:∃ M,x.m*2^k.toNat=M:=⟨_,rfl⟩
    have ea:x.rv=(M:Rat)*(p2 h*p2 h):=by
      rw [ex,←hMe,rcM,←p2_toNat k0,←p2_add,Rat.mul_assoc,←p2_add];congr 2;omega
    rw [hMe] at hM hMb g1 ⊢
    have v1:=isq_le (n:=M) (by omega)
    have v2:=isq_lt (n:=M) (by omega)
    have v0:=isq_nonneg M
    generalize isq M=V at *
    have hV:(2:Int)^(p-1).toNat≤V:=by
      have bx:=blen_pos xpos
      have e1:=two_pow_le (j:=(p-1).toNat+(p-1).toNat) (k:=blen M-1) (by omega)
      rw [Int.pow_add] at e1
      have e0:=two_pow_pos (p-1).toNat
      by_cases hc:(2:Int)^(p-1).toNat≤V
      · exact hc
      · have:(V+1)*(V+1)≤2^(p-1).toNat*2^(p-1).toNat:=Int.mul_le_mul (by omega) (by omega) (by omega) (by omega)
        omega
    have hS:=(sticky_blen (q:=V) (b:=decide (M-V*V≠0)) v0).1
    have best:=cutD_best (d:=mkD false (stickyM V (decide (M-V*V≠0))) (h-1)) mkD_p hp
    rw [rv_mkD hS] at best
    simp only [Bool.false_eq_true,if_false] at best
    rw [sticky_rv,show h-1+1=h by omega] at best
    have p0:=p2_pos h
    have p1:=p2_pos (h-1)
    have V0:(0:Rat)≤(V:Rat):=by
      have:=cast_le.2 v0
      have e0:((0:Int):Rat)=0:=rfl
      rwa [e0] at this
    have A0:0≤(V:Rat)*p2 h:=rmN V0 (rlL p0)
    have sqe:∀ c:Int,(c:Rat)*p2 h*((c:Rat)*p2 h)=((c*c:Int):Rat)*(p2 h*p2 h):=fun c=>by rw [rcM];grind
    have pp:=Rat.mul_pos p0 p0
    cases hb:decide (M-V*V≠0) with
    | false =>
      rw [hb] at best
      simp only [Bool.false_eq_true,if_false,Rat.add_zero] at best
      have hr:M-V*V=0:=by simpa using hb
      have e2:x.rv=(V:Rat)*p2 h*((V:Rat)*p2 h):=by rw [ea,sqe,show M=V*V by omega]
      exact ⟨best.1.sqrt_eq A0 e2,best.2.sqrt_eq A0 e2⟩
    | true =>
      rw [hb] at best
      simp only [if_true] at best
      have hr:M-V*V≠0:=by simpa using hb
      have hA':(V:Rat)*p2 h*((V:Rat)*p2 h)<x.rv:=by
        rw [ea,sqe];exact (Rat.mul_lt_mul_right pp).2 (cast_lt.2 (by omega))
      have hB':x.rv<((V+1:Int):Rat)*p2 h*(((V+1:Int):Rat)*p2 h):=by
        rw [ea,sqe];exact (Rat.mul_lt_mul_right pp).2 (cast_lt.2 (by omega))
      have eB:((V+1:Int):Rat)*p2 h=(V:Rat)*p2 h+2*p2 (h-1):=by
        have:p2 h=2*p2 (h-1):=by rw [←two_p2];congr 1;omega
        rw [rcA,this]
        have e2:((1:Int):Rat)=1:=rfl
        rw [e2];grind
      have hno:∀ t,Rp p t→(V:Rat)*p2 h<t→t<((V+1:Int):Rat)*p2 h→False:=fun t ht k1 k2=>no_rp (E:=h-1) hV hp ht (by rw [show h-1+1=h by omega];exact k1) (by rw [show h-1+1=h by omega];exact k2)
      exact ⟨best.1.sqrt A0 (by grind) (by grind) hA' hB' hno,best.2.sqrt A0 (by grind) (by grind) hA' hB' hno⟩
def sumTo(a:Nat→Rat):Nat→Rat
  | 0=>0
  | n+1=>sumTo a n+a n
def hf(k:Nat):Rat:=p2 (-(k:Int))
def conv(a b:Nat→Rat)(m:Nat):Rat:=sumTo (fun i=>a i*b (m-i)) (m+1)
section
variable {f:Nat} {x:Rat} (hf1:1≤f) (x0:0≤x) (x1:x≤1)
include hf1 x0 x1
end
structure Fx where
  a:Int
  e:Int
def tyAct:TyRow:=⟨48,2,true,[.lit .nilFunc,.lit .nilFunc],.struct [(0,1,false),(1,1,false)]⟩
def tyF3:TyRow:=⟨38,1,false,[.lit .nilFunc],.func⟩
def tyF2:TyRow:=⟨46,1,false,[.lit .nilFunc],.func⟩
def tys2:List TyRow:=[tyAct,tyF3,tyF2] ++ tys
theorem tys2_ok:RowsOk Tryz.prog tys2:=⟨by kernel_rfl,by kernel_rfl,by kernel_rfl,tys_ok⟩
@[match_pattern] abbrev cD (n:Bool) (xs:List Int) (e:Int):List At:=[.bool n,.words false xs,.int .i64 e]
@[match_pattern] abbrev cV (n:Bool) (xs:List Int) (e:Int) (n':Bool) (xs':List Int) (e':Int):List At:=[.bool n,.words false xs,.int .i64 e,.bool n',.words false xs',.int .i64 e']
def zeroIv:Vx:=⟨⟨false,[],0⟩,⟨false,[],0⟩⟩
def roomR(v:Vx):Vx×Int:=if (v.lo.fitsB && v.hi.fitsB)=true then (v,0) else (zeroIv,3)
def whenR(c:Bool)(r:Vx×Int):Vx×Int:=if c=true then r else (zeroIv,2)
def reT(r:Vx×Int):Tv:=.tup [.agg (ivL false r.1),.one (.int .i64 r.2)]
def vRoom:Spec:=specK [.v] fun (v:Vx)=>(none,reT (roomR v))
theorem vRoom_vc(v:Vx)(Q:Tv→Prop):execF ⟨tys2,sRaw8⟩ (fun _=>none) 0 Tryz.f55 [.agg (ivL false v)] Q=(br (!Dx.fitsB v.lo) (Q (Tv.tup [Sv.agg [At.bool false,At.words true [],At.int IntKind.i64 0,At.bool false,At.words true [],At.int IntKind.i64 0],Sv.one (At.int IntKind.i64 3)])) (br (!Dx.fitsB v.hi) (Q (Tv.tup [Sv.agg [At.bool false,At.words true [],At.int IntKind.i64 0,At.bool false,At.words true [],At.int IntKind.i64 0],Sv.one (At.int IntKind.i64 3)])) (Q (Tv.tup [Sv.agg (ivL false v),Sv.one (At.int IntKind.i64 0)])))):=by kernel_rfl
theorem not_true{b:Bool}(h:(!b)=true):b=false:=by cases b<;>simp_all
theorem not_false'{b:Bool}(h:(!b)=false):b=true:=by cases b<;>simp_all
theorem vRoom_ok:SpecOk Tryz.prog 55 vRoom :=
  specKW_ok (envOk tys2_ok sRaw8_ok) mixed Tryz.func55 rfl (by decide) (by decide) fun (v:Vx) _ _=>⟨fun _=>none,0,by
    show execF _ _ _ _ _ (fun t=>t=reT (roomR v)∨fgT t=reT (roomR v))
    refine (vRoom_vc v _).mpr (br_intro (fun h=>?_) fun h=>br_intro (fun h1=>?_) fun h1=>?_)
    · right;rw [roomR,not_true h];rfl
    · right;rw [roomR,not_true h1,Bool.and_false];rfl
    · left;rw [roomR,not_false' h,not_false' h1];rfl⟩
theorem right_fits{v:Vx}(h:rightV v=true):v.lo.fitsB=true∧v.hi.fitsB=true∧cmpD v.lo v.hi≤0:=by
  unfold rightV at h;simpa using h
theorem right_sm{v:Vx}(h:rightV v=true):v.Sm 65536:=⟨fits_sm (right_fits h).1,fits_sm (right_fits h).2.1⟩
def meetsV(v u:Vx):Bool:=rightV v && (rightV u && (leI (cmpD v.lo u.hi) 0 && leI (cmpD u.lo v.hi) 0))
def signV(v:Vx):Int×Bool:=if rightV v=true then (if 0<v.lo.sgn then (1,true) else if v.hi.sgn<0 then (-1,true) else (0,eqI v.lo.sgn 0 && eqI v.hi.sgn 0)) else (0,false)
def vMe:Spec:=specK [.v,.v] fun (v:Vx) (u:Vx)=>(none,bT (meetsV v u))
theorem vMe_vc(v u:Vx)(Q:Tv→Prop):execF ⟨tys2,sRaw8⟩ (fun _=>none) 0 Tryz.f25 [.agg (ivL false v),.agg (ivL false u)] Q=(br (rightV v) (br (rightV u) ((Dx.Sm 68719476736 v.lo∧Dx.Sm 68719476736 u.hi)∧br (leI (cmpD v.lo u.hi) 0) ((Dx.Sm 68719476736 u.lo∧Dx.Sm 68719476736 v.hi)∧Q (Tv.sv (Sv.one (At.bool (leI (cmpD u.lo v.hi) 0))))) (Q (Tv.sv (Sv.one (At.bool false))))) (Q (Tv.sv (Sv.one (At.bool false))))) (Q (Tv.sv (Sv.one (At.bool false))))):=by kernel_rfl
theorem vMe_ok:SpecOk Tryz.prog 25 vMe :=
  specK_ok (envOk tys2_ok sRaw8_ok) mixed Tryz.func25 rfl (by decide) (by decide) fun (v:Vx) _ (u:Vx) _ _=>⟨fun _=>none,0,by
    show execF _ _ _ _ _ (fun t=>t=bT (meetsV v u))
    refine (vMe_vc v u _).mpr (br_intro (fun h1=>br_intro (fun h2=>?_) fun h2=>?_) fun h1=>?_)
    · have z1:=right_sm h1
      have z2:=right_sm h2
      refine ⟨⟨z1.1.mono (by omega),z2.2.mono (by omega)⟩,br_intro (fun h3=>⟨⟨z2.1.mono (by omega),z1.2.mono (by omega)⟩,?_⟩) fun h3=>?_⟩
      · rw [meetsV,h1,h2,h3];rfl
      · rw [meetsV,h1,h2,h3];rfl
    · rw [meetsV,h1,h2];rfl
    · rw [meetsV,h1];rfl⟩
def sgT(r:Int×Bool):Tv:=.tup [.one (.int .i64 r.1),.one (.bool r.2)]
def vSi:Spec:=specK [.v] fun (v:Vx)=>(none,sgT (signV v))
theorem vSi_vc(v:Vx)(Q:Tv→Prop):execF ⟨tys2,sRaw8⟩ (fun _=>none) 0 Tryz.f24 [.agg (ivL false v)] Q=(br (!rightV v) (Q (Tv.tup [Sv.one (At.int IntKind.i64 0),Sv.one (At.bool false)])) (true=true∧br (ltI 0 (Dx.sgn v.lo)) (Q (Tv.tup [Sv.one (At.int IntKind.i64 1),Sv.one (At.bool true)])) (br (ltI (Dx.sgn v.hi) 0) (Q (Tv.tup [Sv.one (At.int IntKind.i64 (-1)),Sv.one (At.bool true)])) (br (eqI (Dx.sgn v.lo) 0) (Q (Tv.tup [Sv.one (At.int IntKind.i64 0),Sv.one (At.bool (eqI (Dx.sgn v.hi) 0))])) (Q (Tv.tup [Sv.one (At.int IntKind.i64 0),Sv.one (At.bool false)])))))):=by kernel_rfl
theorem vSi_ok:SpecOk Tryz.prog 24 vSi :=
  specK_ok (envOk tys2_ok sRaw8_ok) mixed Tryz.func24 rfl (by decide) (by decide) fun (v:Vx) _ _=>⟨fun _=>none,0,by
    show execF _ _ _ _ _ (fun t=>t=sgT (signV v))
    refine (vSi_vc v _).mpr (br_intro (fun h=>?_) fun h=>⟨rfl,br_intro (fun h1=>?_) fun h1=>br_intro (fun h2=>?_) fun h2=>br_intro (fun h3=>?_) fun h3=>?_⟩)
    · rw [signV,not_true h];rfl
    · rw [signV,if_pos (not_false' h),if_pos (ltI_true.1 h1)];rfl
    · rw [signV,if_pos (not_false' h),if_neg (ltI_false.1 h1),if_pos (ltI_true.1 h2)];rfl
    · rw [signV,if_pos (not_false' h),if_neg (ltI_false.1 h1),if_neg (ltI_false.1 h2),h3];rfl
    · rw [signV,if_pos (not_false' h),if_neg (ltI_false.1 h1),if_neg (ltI_false.1 h2),h3];rfl⟩
def sIv1:List (FuncId×Spec):=[(55,vRoom),(25,vMe),(24,vSi)] ++ sRaw8
theorem sIv1_ok:SpecsOk Tryz.prog sIv1:=⟨vRoom_ok,vMe_ok,vSi_ok,sRaw8_ok⟩
def vNv:Spec:=specK [.v,.v] fun (_:Vx) (_:Vx)=>(none,iT 0)
theorem vNv_vc(v u:Vx)(Q:Tv→Prop):execF ⟨tys2,sRaw8⟩ (fun _=>none) 0 Tryz.f27 [.agg (ivL false v),.agg (ivL false u)] Q=(Q (Tv.sv (Sv.one (At.int IntKind.i64 0)))):=by kernel_rfl
theorem vNv_ok:SpecOk Tryz.prog 27 vNv :=
  specK_ok (envOk tys2_ok sRaw8_ok) mixed Tryz.func27 rfl (by decide) (by decide) fun (v:Vx) _ (u:Vx) _ _=>⟨fun _=>none,0,(vNv_vc v u _).mpr rfl⟩
def wrongZ(u:Vx):Int:=if zeroV u=true then 30 else 0
def vD1:Spec:=specK [.v,.v] fun (_:Vx) (u:Vx)=>(none,iT (wrongZ u))
theorem vD1_vc(v u:Vx)(Q:Tv→Prop):execF ⟨tys2,sRaw8⟩ (fun _=>none) 0 Tryz.f31 [.agg (ivL false v),.agg (ivL false u)] Q=(br (zeroV u) (Q (Tv.sv (Sv.one (At.int IntKind.i64 30)))) (Q (Tv.sv (Sv.one (At.int IntKind.i64 0))))):=by kernel_rfl
theorem vD1_ok:SpecOk Tryz.prog 31 vD1 :=
  specK_ok (envOk tys2_ok sRaw8_ok) mixed Tryz.func31 rfl (by decide) (by decide) fun (v:Vx) _ (u:Vx) _ _=>⟨fun _=>none,0,by
    show execF _ _ _ _ _ (fun t=>t=iT (wrongZ u))
    refine (vD1_vc v u _).mpr (br_intro (fun h=>?_) fun h=>?_)<;>rw [wrongZ,h]<;>rfl⟩
def wrongL(v:Vx):Int:=if v.lo.sgn<0 then 31 else 0
def vQ1:Spec:=specK [.v,.v] fun (v:Vx) (_:Vx)=>(none,iT (wrongL v))
theorem vQ1_vc(v u:Vx)(Q:Tv→Prop):execF ⟨tys2,sRaw8⟩ (fun _=>none) 0 Tryz.f34 [.agg (ivL false v),.agg (ivL false u)] Q=(br (ltI (Dx.sgn v.lo) 0) (Q (Tv.sv (Sv.one (At.int IntKind.i64 31)))) (Q (Tv.sv (Sv.one (At.int IntKind.i64 0))))):=by kernel_rfl
theorem vQ1_ok:SpecOk Tryz.prog 34 vQ1 :=
  specK_ok (envOk tys2_ok sRaw8_ok) mixed Tryz.func34 rfl (by decide) (by decide) fun (v:Vx) _ (u:Vx) _ _=>⟨fun _=>none,0,by
    show execF _ _ _ _ _ (fun t=>t=iT (wrongL v))
    refine (vQ1_vc v u _).mpr (br_intro (fun h=>?_) fun h=>?_)
    · rw [wrongL,if_pos (ltI_true.1 h)]
    · rw [wrongL,if_neg (ltI_false.1 h)]⟩
def vQ2:Spec:=specK [.v,.v,.i .i64] fun (v:Vx) (_:Vx) (p:Int)=>(some (v.Sm 67108864∧0≤p∧p≤67108864),vT (sqrtV v p))
theorem vQ2_vc(v u:Vx)(p:Int)(Q:Tv→Prop):execF ⟨tys2,sRaw8⟩ (fun _=>none) 0 Tryz.f36 [.agg (ivL false v),.agg (ivL false u),.one (.int .i64 p)] Q=((Vx.Sm 67108864 v∧(0:Int)≤p∧p≤67108864)∧Q (Tv.sv (Sv.agg (ivL true (sqrtV v p))))):=by kernel_rfl
theorem vQ2_ok:SpecOk Tryz.prog 36 vQ2 :=
  specK_ok (envOk tys2_ok sRaw8_ok) mixed Tryz.func36 rfl (by decide) (by decide) fun (v:Vx) _ (u:Vx) _ (p:Int) _ hp=>⟨fun _=>none,0,(vQ2_vc v u p _).mpr ⟨hp,rfl⟩⟩
def sIv2:List (FuncId×Spec):=[(27,vNv),(31,vD1),(34,vQ1),(36,vQ2)] ++ sIv1
theorem sIv2_ok:SpecsOk Tryz.prog sIv2:=⟨vNv_ok,vD1_ok,vQ1_ok,vQ2_ok,sIv1_ok⟩
def Qw(r:Vx×Int)(t:Tv):Prop:=t=reT r∨fgT t=reT r
def doR(v u:Vx)(p wrong:Int)(X:Vx):Vx×Int:=whenR (rightV v && (rightV u && (leI 1 p && leI p 8192))) (if neI wrong 0=true then (zeroIv,wrong) else roomR X)
abbrev zT(n:Int):Tv:=.tup [.agg zV,.one (.int .i64 n)]
theorem lt_not{a b:Int}(h:ltI a b=true):leI b a=false:=by rw [leI_false];have:=ltI_true.1 h;omega
theorem nlt_le{a b:Int}(h:ltI a b=false):leI b a=true:=by rw [leI_true];have:=ltI_false.1 h;omega
theorem do_br{v u X:Vx}{p wrong:Int}{R:Prop}(h:rightV v=true→rightV u=true→1≤p→p≤8192→((if neI wrong 0=true then (zeroIv,wrong) else roomR X)=doR v u p wrong X)→R) :
    br (!rightV v) (Qw (doR v u p wrong X) (zT 2)) (br (!rightV u) (Qw (doR v u p wrong X) (zT 2)) (br (ltI p 1) (Qw (doR v u p wrong X) (zT 2)) (br (ltI 8192 p) (Qw (doR v u p wrong X) (zT 2)) R))):=by
  refine br_intro (fun h1=>?_) fun h1=>br_intro (fun h2=>?_) fun h2=>br_intro (fun h3=>?_) fun h3=>br_intro (fun h4=>?_) fun h4=>?_
  · right;rw [doR,not_true h1];rfl
  · right;rw [doR,not_true h2,Bool.false_and,Bool.and_false];rfl
  · right;rw [doR,lt_not h3,Bool.false_and,Bool.and_false,Bool.and_false];rfl
  · right;rw [doR,lt_not h4,Bool.and_false,Bool.and_false,Bool.and_false];rfl
  · refine h (not_false' h1) (not_false' h2) (leI_true.1 (nlt_le h3)) (leI_true.1 (nlt_le h4)) ?_
    rw [doR,not_false' h1,not_false' h2,nlt_le h3,nlt_le h4];rfl
theorem scl_le_of_right{v:Vx}(h:rightV v=true):v.lo.scl (min v.lo.e v.hi.e)≤v.hi.scl (min v.lo.e v.hi.e):=by
  have:=(right_fits h).2.2
  unfold cmpD cmpI at this
  split at this
  · omega
  · split at this<;>omega
theorem sgn_le{v:Vx}(hv:v.P)(h:rightV v=true):v.lo.sgn≤v.hi.sgn:=by
  have k:=scl_le_of_right h
  rcases scl_sgn hv.1 (min v.lo.e v.hi.e) with ⟨a,b⟩|⟨a,_,_,b,c⟩|⟨a,_,_,b,c⟩<;>rcases scl_sgn hv.2 (min v.lo.e v.hi.e) with ⟨a',b'⟩|⟨a',_,_,b',c'⟩|⟨a',_,_,b',c'⟩<;>omega
theorem sgn_zero{d:Dx}:d.sgn=0↔d.m=0:=by
  unfold Dx.sgn;split
  · simp_all
  · split<;>simp_all
theorem not_zero_ends{v:Vx}(hv:v.P)(h:rightV v=true)(hz:zeroV v=false):v.lo.m≠0∧v.hi.m≠0:=by
  have k:=sgn_le hv h
  unfold zeroV at hz
  have:¬ (v.lo.sgn≤0∧0≤v.hi.sgn):=by intro ⟨a,b⟩;rw [decide_eq_true a,decide_eq_true b] at hz;simp at hz
  constructor
  · intro e;have:=sgn_zero.2 e;omega
  · intro e;have:=sgn_zero.2 e;omega
theorem dA_vc(v u:Vx)(p:Int)(Q:Tv→Prop):execF ⟨tys2,sIv2⟩ (fun _=>none) 0 Tryz.f28 [.agg [.fn 26 [],.fn 27 []],.agg (ivL false v),.agg (ivL false u),.one (.int .i64 p)] Q=(br (!rightV v) (Q (Tv.tup [Sv.agg [At.bool false,At.words true [],At.int IntKind.i64 0,At.bool false,At.words true [],At.int IntKind.i64 0],Sv.one (At.int IntKind.i64 2)])) (br (!rightV u) (Q (Tv.tup [Sv.agg [At.bool false,At.words true [],At.int IntKind.i64 0,At.bool false,At.words true [],At.int IntKind.i64 0],Sv.one (At.int IntKind.i64 2)])) (br (ltI p 1) (Q (Tv.tup [Sv.agg [At.bool false,At.words true [],At.int IntKind.i64 0,At.bool false,At.words true [],At.int IntKind.i64 0],Sv.one (At.int IntKind.i64 2)])) (br (ltI 8192 p) (Q (Tv.tup [Sv.agg [At.bool false,At.words true [],At.int IntKind.i64 0,At.bool false,At.words true [],At.int IntKind.i64 0],Sv.one (At.int IntKind.i64 2)])) ((Vx.Sm 268435456 v∧Vx.Sm 268435456 u∧(0:Int)≤p∧p≤1099511627776)∧Q (Tv.tup [Sv.agg (ivL false (roomR (plusV v u p)).fst),Sv.one (At.int IntKind.i64 (roomR (plusV v u p)).snd)])))))):=by kernel_rfl
theorem dB_vc(v u:Vx)(p:Int)(Q:Tv→Prop):execF ⟨tys2,sIv2⟩ (fun _=>none) 0 Tryz.f28 [.agg [.fn 29 [],.fn 27 []],.agg (ivL false v),.agg (ivL false u),.one (.int .i64 p)] Q=(br (!rightV v) (Q (Tv.tup [Sv.agg [At.bool false,At.words true [],At.int IntKind.i64 0,At.bool false,At.words true [],At.int IntKind.i64 0],Sv.one (At.int IntKind.i64 2)])) (br (!rightV u) (Q (Tv.tup [Sv.agg [At.bool false,At.words true [],At.int IntKind.i64 0,At.bool false,At.words true [],At.int IntKind.i64 0],Sv.one (At.int IntKind.i64 2)])) (br (ltI p 1) (Q (Tv.tup [Sv.agg [At.bool false,At.words true [],At.int IntKind.i64 0,At.bool false,At.words true [],At.int IntKind.i64 0],Sv.one (At.int IntKind.i64 2)])) (br (ltI 8192 p) (Q (Tv.tup [Sv.agg [At.bool false,At.words true [],At.int IntKind.i64 0,At.bool false,At.words true [],At.int IntKind.i64 0],Sv.one (At.int IntKind.i64 2)])) ((Vx.Sm 134217728 v∧Vx.Sm 134217728 u∧(0:Int)≤p∧p≤1099511627776)∧Q (Tv.tup [Sv.agg (ivL false (roomR (lessV v u p)).fst),Sv.one (At.int IntKind.i64 (roomR (lessV v u p)).snd)])))))):=by kernel_rfl
theorem dM_vc(v u:Vx)(p:Int)(Q:Tv→Prop):execF ⟨tys2,sIv2⟩ (fun _=>none) 0 Tryz.f28 [.agg [.fn 30 [],.fn 27 []],.agg (ivL false v),.agg (ivL false u),.one (.int .i64 p)] Q=(br (!rightV v) (Q (Tv.tup [Sv.agg [At.bool false,At.words true [],At.int IntKind.i64 0,At.bool false,At.words true [],At.int IntKind.i64 0],Sv.one (At.int IntKind.i64 2)])) (br (!rightV u) (Q (Tv.tup [Sv.agg [At.bool false,At.words true [],At.int IntKind.i64 0,At.bool false,At.words true [],At.int IntKind.i64 0],Sv.one (At.int IntKind.i64 2)])) (br (ltI p 1) (Q (Tv.tup [Sv.agg [At.bool false,At.words true [],At.int IntKind.i64 0,At.bool false,At.words true [],At.int IntKind.i64 0],Sv.one (At.int IntKind.i64 2)])) (br (ltI 8192 p) (Q (Tv.tup [Sv.agg [At.bool false,At.words true [],At.int IntKind.i64 0,At.bool false,At.words true [],At.int IntKind.i64 0],Sv.one (At.int IntKind.i64 2)])) ((Vx.Sm 268435456 v∧Vx.Sm 268435456 u∧(0:Int)≤p∧p≤1099511627776)∧Q (Tv.tup [Sv.agg (ivL false (roomR (timesV v u p)).fst),Sv.one (At.int IntKind.i64 (roomR (timesV v u p)).snd)])))))):=by kernel_rfl
theorem dD_vc(v u:Vx)(p:Int)(Q:Tv→Prop):execF ⟨tys2,sIv2⟩ (fun _=>none) 0 Tryz.f28 [.agg [.fn 33 [],.fn 31 []],.agg (ivL false v),.agg (ivL false u),.one (.int .i64 p)] Q=(br (!rightV v) (Q (Tv.tup [Sv.agg [At.bool false,At.words true [],At.int IntKind.i64 0,At.bool false,At.words true [],At.int IntKind.i64 0],Sv.one (At.int IntKind.i64 2)])) (br (!rightV u) (Q (Tv.tup [Sv.agg [At.bool false,At.words true [],At.int IntKind.i64 0,At.bool false,At.words true [],At.int IntKind.i64 0],Sv.one (At.int IntKind.i64 2)])) (br (ltI p 1) (Q (Tv.tup [Sv.agg [At.bool false,At.words true [],At.int IntKind.i64 0,At.bool false,At.words true [],At.int IntKind.i64 0],Sv.one (At.int IntKind.i64 2)])) (br (ltI 8192 p) (Q (Tv.tup [Sv.agg [At.bool false,At.words true [],At.int IntKind.i64 0,At.bool false,At.words true [],At.int IntKind.i64 0],Sv.one (At.int IntKind.i64 2)])) (br (neI (wrongZ u) 0) (Q (Tv.tup [Sv.agg [At.bool false,At.words true [],At.int IntKind.i64 0,At.bool false,At.words true [],At.int IntKind.i64 0],Sv.one (At.int IntKind.i64 (wrongZ u))])) ((Vx.Sm 67108864 v∧Vx.Sm 67108864 u∧Dx.m u.lo≠0∧Dx.m u.hi≠0∧(0:Int)≤p∧p≤67108864)∧Q (Tv.tup [Sv.agg (ivL false (roomR (divV v u p)).fst),Sv.one (At.int IntKind.i64 (roomR (divV v u p)).snd)]))))))):=by kernel_rfl
theorem dQ_vc(v u:Vx)(p:Int)(Q:Tv→Prop):execF ⟨tys2,sIv2⟩ (fun _=>none) 0 Tryz.f28 [.agg [.fn 36 [],.fn 34 []],.agg (ivL false v),.agg (ivL false u),.one (.int .i64 p)] Q=(br (!rightV v) (Q (Tv.tup [Sv.agg [At.bool false,At.words true [],At.int IntKind.i64 0,At.bool false,At.words true [],At.int IntKind.i64 0],Sv.one (At.int IntKind.i64 2)])) (br (!rightV u) (Q (Tv.tup [Sv.agg [At.bool false,At.words true [],At.int IntKind.i64 0,At.bool false,At.words true [],At.int IntKind.i64 0],Sv.one (At.int IntKind.i64 2)])) (br (ltI p 1) (Q (Tv.tup [Sv.agg [At.bool false,At.words true [],At.int IntKind.i64 0,At.bool false,At.words true [],At.int IntKind.i64 0],Sv.one (At.int IntKind.i64 2)])) (br (ltI 8192 p) (Q (Tv.tup [Sv.agg [At.bool false,At.words true [],At.int IntKind.i64 0,At.bool false,At.words true [],At.int IntKind.i64 0],Sv.one (At.int IntKind.i64 2)])) (br (neI (wrongL v) 0) (Q (Tv.tup [Sv.agg [At.bool false,At.words true [],At.int IntKind.i64 0,At.bool false,At.words true [],At.int IntKind.i64 0],Sv.one (At.int IntKind.i64 (wrongL v))])) ((Vx.Sm 67108864 v∧(0:Int)≤p∧p≤67108864)∧Q (Tv.tup [Sv.agg (ivL false (roomR (sqrtV v p)).fst),Sv.one (At.int IntKind.i64 (roomR (sqrtV v p)).snd)]))))))):=by kernel_rfl
def actS(f g:Nat)(v u:Vx)(p:Int):Option Prop×Tv :=
  match Nat.beq f 26 && Nat.beq g 27 with
  | true=>(none,reT (doR v u p ((0:Int)) (plusV v u p)))
  | false =>
  match Nat.beq f 29 && Nat.beq g 27 with
  | true=>(none,reT (doR v u p (0) (lessV v u p)))
  | false =>
  match Nat.beq f 30 && Nat.beq g 27 with
  | true=>(none,reT (doR v u p (0) (timesV v u p)))
  | false =>
  match Nat.beq f 33 && Nat.beq g 31 with
  | true=>(none,reT (doR v u p (wrongZ u) (divV v u p)))
  | false =>
  match Nat.beq f 36 && Nat.beq g 34 with
  | true=>(none,reT (doR v u p (wrongL v) (sqrtV v p)))
  | false =>
  noSpec
def vDo:Spec:=fun l=>match l with
  | [.agg [.fn f [],.fn g []],.agg (cV n xs e n' xs' e'),.agg (cV m ys i m' ys' i'),.one (.int .i64 p)]=>actS f g ⟨⟨n,xs,e⟩,⟨n',xs',e'⟩⟩ ⟨⟨m,ys,i⟩,⟨m',ys',i'⟩⟩ p
  | _=>noSpec
theorem beq2{f g a b:Nat}(h:(Nat.beq f a && Nat.beq g b)=true):f=a∧g=b:=by
  rw [Bool.and_eq_true] at h
  exact ⟨Nat.eq_of_beq_eq_true h.1,Nat.eq_of_beq_eq_true h.2⟩
theorem actS_ok{f g:Nat}{v u:Vx}{p:Int}(pu:u.P){q:Option Prop}{t:Tv}(hp:match q with | none=>True | some q=>q)(e:actS f g v u p=(q,t)) :
    execF ⟨tys2,sIv2⟩ (fun _=>none) 0 Tryz.f28 [.agg [.fn f [],.fn g []],.agg (ivL false v),.agg (ivL false u),.one (.int .i64 p)] (fun x=>x=t∨fgT x=t):=by
  unfold actS at e
  split at e
  · rename_i hb
    obtain ⟨rfl,rfl⟩:=beq2 hb
    cases e
    refine (dA_vc v u p _).mpr (do_br fun h1 h2 h3 h4 h5=>?_)
    have z1:=right_sm h1
    have z2:=right_sm h2
    exact ⟨⟨z1.mono (by omega),z2.mono (by omega),by omega,by omega⟩,Or.inl (by rw [←h5];rfl)⟩
  split at e
  · rename_i hb
    obtain ⟨rfl,rfl⟩:=beq2 hb
    cases e
    refine (dB_vc v u p _).mpr (do_br fun h1 h2 h3 h4 h5=>?_)
    have z1:=right_sm h1
    have z2:=right_sm h2
    exact ⟨⟨z1.mono (by omega),z2.mono (by omega),by omega,by omega⟩,Or.inl (by rw [←h5];rfl)⟩
  split at e
  · rename_i hb
    obtain ⟨rfl,rfl⟩:=beq2 hb
    cases e
    refine (dM_vc v u p _).mpr (do_br fun h1 h2 h3 h4 h5=>?_)
    have z1:=right_sm h1
    have z2:=right_sm h2
    exact ⟨⟨z1.mono (by omega),z2.mono (by omega),by omega,by omega⟩,Or.inl (by rw [←h5];rfl)⟩
  split at e
  · rename_i hb
    obtain ⟨rfl,rfl⟩:=beq2 hb
    cases e
    refine (dD_vc v u p _).mpr (do_br fun h1 h2 h3 h4 h5=>?_)
    have z1:=right_sm h1
    have z2:=right_sm h2
    refine br_intro (fun h6=>Or.inr (by rw [←h5,if_pos h6];rfl)) fun h6=>?_
    have hz:zeroV u=false:=by
      cases hq:zeroV u with
      | false=>rfl
      | true=>rw [wrongZ,hq] at h6;exact absurd h6 (by decide)
    obtain ⟨y1,y2⟩:=not_zero_ends pu h2 hz
    exact ⟨⟨z1.mono (by omega),z2.mono (by omega),y1,y2,by omega,by omega⟩,Or.inl (by rw [←h5,if_neg (by rw [h6];decide)];rfl)⟩
  split at e
  · rename_i hb
    obtain ⟨rfl,rfl⟩:=beq2 hb
    cases e
    refine (dQ_vc v u p _).mpr (do_br fun h1 h2 h3 h4 h5=>?_)
    have z1:=right_sm h1
    have z2:=right_sm h2
    refine br_intro (fun h6=>Or.inr (by rw [←h5,if_pos h6];rfl)) fun h6=>?_
    exact ⟨⟨z1.mono (by omega),by omega,by omega⟩,Or.inl (by rw [←h5,if_neg (by rw [h6];decide)];rfl)⟩
  cases e;exact hp.elim
theorem vDo_ok:SpecOk Tryz.prog 28 vDo :=
  specOk_pat (envOk tys2_ok sIv2_ok) mixed Tryz.func28 rfl (by decide) 4 (by decide) fun l q t hw he hp=>by
    unfold vDo at he
    split at he
    · rename_i f g n xs e n' xs' e' m ys i m' ys' i' p
      obtain ⟨_,_,⟨_,w3,_,_,w4,_,_⟩,_⟩:=hw
      exact ⟨Nat.le_refl 4,fun _=>none,0,actS_ok (v:=⟨⟨n,xs,e⟩,⟨n',xs',e'⟩⟩) (u:=⟨⟨m,ys,i⟩,⟨m',ys',i'⟩⟩) ⟨w3.val0,w4.val0⟩ hp he⟩
    · cases he;exact hp.elim
def sIv3:List (FuncId×Spec):=[(28,vDo)] ++ sIv2
theorem sIv3_ok:SpecsOk Tryz.prog sIv3:=⟨vDo_ok,sIv2_ok⟩
def ivAdd(v u:Vx)(p:Int):Vx×Int:=doR v u p 0 (plusV v u p)
def ivSub(v u:Vx)(p:Int):Vx×Int:=doR v u p 0 (lessV v u p)
def ivMul(v u:Vx)(p:Int):Vx×Int:=doR v u p 0 (timesV v u p)
def ivDiv(v u:Vx)(p:Int):Vx×Int:=doR v u p (wrongZ u) (divV v u p)
def ivSqrt(v:Vx)(p:Int):Vx×Int:=doR v zeroIv p (wrongL v) (sqrtV v p)
def vXAdd:Spec:=specK [.v,.v,.i .i64] fun (v:Vx) (u:Vx) (p:Int)=>(none,reT (ivAdd v u p))
theorem vXAdd_vc(v:Vx)(u:Vx)(p:Int)(Q:Tv→Prop):execF ⟨tys2,sIv3⟩ (fun _=>none) 0 Tryz.f8 [.agg (ivL false v),.agg (ivL false u),.one (.int .i64 p)] Q=(Q (Tv.tup [Sv.agg (ivL false (doR v u p 0 (plusV v u p)).fst),Sv.one (At.int IntKind.i64 (doR v u p 0 (plusV v u p)).snd)])):=by kernel_rfl
def vXSub:Spec:=specK [.v,.v,.i .i64] fun (v:Vx) (u:Vx) (p:Int)=>(none,reT (ivSub v u p))
theorem vXSub_vc(v:Vx)(u:Vx)(p:Int)(Q:Tv→Prop):execF ⟨tys2,sIv3⟩ (fun _=>none) 0 Tryz.f9 [.agg (ivL false v),.agg (ivL false u),.one (.int .i64 p)] Q=(Q (Tv.tup [Sv.agg (ivL false (doR v u p 0 (lessV v u p)).fst),Sv.one (At.int IntKind.i64 (doR v u p 0 (lessV v u p)).snd)])):=by kernel_rfl
def vXMul:Spec:=specK [.v,.v,.i .i64] fun (v:Vx) (u:Vx) (p:Int)=>(none,reT (ivMul v u p))
theorem vXMul_vc(v:Vx)(u:Vx)(p:Int)(Q:Tv→Prop):execF ⟨tys2,sIv3⟩ (fun _=>none) 0 Tryz.f10 [.agg (ivL false v),.agg (ivL false u),.one (.int .i64 p)] Q=(Q (Tv.tup [Sv.agg (ivL false (doR v u p 0 (timesV v u p)).fst),Sv.one (At.int IntKind.i64 (doR v u p 0 (timesV v u p)).snd)])):=by kernel_rfl
def vXDiv:Spec:=specK [.v,.v,.i .i64] fun (v:Vx) (u:Vx) (p:Int)=>(none,reT (ivDiv v u p))
theorem vXDiv_vc(v:Vx)(u:Vx)(p:Int)(Q:Tv→Prop):execF ⟨tys2,sIv3⟩ (fun _=>none) 0 Tryz.f11 [.agg (ivL false v),.agg (ivL false u),.one (.int .i64 p)] Q=(Q (Tv.tup [Sv.agg (ivL false (doR v u p (wrongZ u) (divV v u p)).fst),Sv.one (At.int IntKind.i64 (doR v u p (wrongZ u) (divV v u p)).snd)])):=by kernel_rfl
def vXSqrt:Spec:=specK [.v,.i .i64] fun (v:Vx) (p:Int)=>(none,reT (ivSqrt v p))
theorem vXSqrt_vc(v:Vx)(p:Int)(Q:Tv→Prop):execF ⟨tys2,sIv3⟩ (fun _=>none) 0 Tryz.f12 [.agg (ivL false v),.one (.int .i64 p)] Q=(Q (Tv.tup [Sv.agg (ivL false (doR v (Vx.mk (Dx.mk false [] 0) (Dx.mk false [] 0)) p (wrongL v) (sqrtV v p)).fst),Sv.one (At.int IntKind.i64 (doR v (Vx.mk (Dx.mk false [] 0) (Dx.mk false [] 0)) p (wrongL v) (sqrtV v p)).snd)])):=by kernel_rfl
theorem vXAdd_ok:SpecOk Tryz.prog 8 vXAdd :=
  specK_ok (envOk tys2_ok sIv3_ok) mixed Tryz.func8 rfl (by decide) (by decide) fun (v:Vx) _ (u:Vx) _ (p:Int) _ _=>⟨fun _=>none,0,(vXAdd_vc v u p _).mpr rfl⟩
theorem vXSub_ok:SpecOk Tryz.prog 9 vXSub :=
  specK_ok (envOk tys2_ok sIv3_ok) mixed Tryz.func9 rfl (by decide) (by decide) fun (v:Vx) _ (u:Vx) _ (p:Int) _ _=>⟨fun _=>none,0,(vXSub_vc v u p _).mpr rfl⟩
theorem vXMul_ok:SpecOk Tryz.prog 10 vXMul :=
  specK_ok (envOk tys2_ok sIv3_ok) mixed Tryz.func10 rfl (by decide) (by decide) fun (v:Vx) _ (u:Vx) _ (p:Int) _ _=>⟨fun _=>none,0,(vXMul_vc v u p _).mpr rfl⟩
theorem vXDiv_ok:SpecOk Tryz.prog 11 vXDiv :=
  specK_ok (envOk tys2_ok sIv3_ok) mixed Tryz.func11 rfl (by decide) (by decide) fun (v:Vx) _ (u:Vx) _ (p:Int) _ _=>⟨fun _=>none,0,(vXDiv_vc v u p _).mpr rfl⟩
theorem vXSqrt_ok:SpecOk Tryz.prog 12 vXSqrt :=
  specK_ok (envOk tys2_ok sIv3_ok) mixed Tryz.func12 rfl (by decide) (by decide) fun (v:Vx) _ (p:Int) _ _=>⟨fun _=>none,0,(vXSqrt_vc v p _).mpr rfl⟩
def sIval:List (FuncId×Spec):=[(8,vXAdd),(9,vXSub),(10,vXMul),(11,vXDiv),(12,vXSqrt)] ++ sIv3
theorem sIval_ok:SpecsOk Tryz.prog sIval:=⟨vXAdd_ok,vXSub_ok,vXMul_ok,vXDiv_ok,vXSqrt_ok,sIv3_ok⟩
def gRight:Spec:=specK [.v] fun (v:Vx)=>(none,bT (rightV v))
theorem gRight_vc(v:Vx)(Q:Tv→Prop):execF ⟨tys2,sRef4⟩ (fun _=>none) 0 Tryz.f13 [.agg (ivL false v)] Q=(br (Dx.fitsB v.lo) (br (Dx.fitsB v.hi) ((Dx.Sm 34359738368 v.lo∧Dx.Sm 34359738368 v.hi)∧Q (Tv.sv (Sv.one (At.bool (leI (cmpD v.lo v.hi) 0))))) (Q (Tv.sv (Sv.one (At.bool false))))) (Q (Tv.sv (Sv.one (At.bool false))))):=by kernel_rfl
theorem gRight_ok:SpecOk Tryz.prog 13 gRight :=
  specK_ok (envOk tys2_ok sRef4_ok) mixed Tryz.func13 rfl (by decide) (by decide) fun (v:Vx) _ _=>⟨fun _=>none,0,by
    refine (gRight_vc v _).mpr (br_intro (fun h1=>br_intro (fun h2=>⟨⟨(fits_sm h1).mono (by omega),(fits_sm h2).mono (by omega)⟩,?_⟩) fun h2=>?_) fun h1=>?_)
    · show _=bT (rightV v);rw [rightV,h1,h2];rfl
    · show _=bT (rightV v);rw [rightV,h1,h2];rfl
    · show _=bT (rightV v);rw [rightV,h1];rfl⟩
def gRoom:Spec:=specK [.v] fun (v:Vx)=>(none,reT (roomR v))
theorem gRoom_vc(v:Vx)(Q:Tv→Prop):execF ⟨tys2,sRef4⟩ (fun _=>none) 0 Tryz.f14 [.agg (ivL false v)] Q=(br (!Dx.fitsB v.lo) (Q (Tv.tup [Sv.agg [At.bool false,At.words true [],At.int IntKind.i64 0,At.bool false,At.words true [],At.int IntKind.i64 0],Sv.one (At.int IntKind.i64 3)])) (br (!Dx.fitsB v.hi) (Q (Tv.tup [Sv.agg [At.bool false,At.words true [],At.int IntKind.i64 0,At.bool false,At.words true [],At.int IntKind.i64 0],Sv.one (At.int IntKind.i64 3)])) (Q (Tv.tup [Sv.agg (ivL false v),Sv.one (At.int IntKind.i64 0)])))):=by kernel_rfl
theorem gRoom_ok:SpecOk Tryz.prog 14 gRoom :=
  specKW_ok (envOk tys2_ok sRef4_ok) mixed Tryz.func14 rfl (by decide) (by decide) fun (v:Vx) _ _=>⟨fun _=>none,0,by
    show execF _ _ _ _ _ (fun t=>t=reT (roomR v)∨fgT t=reT (roomR v))
    refine (gRoom_vc v _).mpr (br_intro (fun h=>?_) fun h=>br_intro (fun h1=>?_) fun h1=>?_)
    · right;rw [roomR,not_true h];rfl
    · right;rw [roomR,not_true h1,Bool.and_false];rfl
    · left;rw [roomR,not_false' h,not_false' h1];rfl⟩
def gTrim:Spec:=specK [.v,.i .i64] fun (v:Vx) (p:Int)=>(some (v.Sm 34359738368∧0≤p∧p≤1099511627776),vT (trimV v p))
theorem gTrim_vc(v:Vx)(p:Int)(Q:Tv→Prop):execF ⟨tys2,sRef4⟩ (fun _=>none) 0 Tryz.f40 [.agg (ivL false v),.one (.int .i64 p)] Q=((Dx.Sm 34359738368 v.lo∧(0:Int)≤p∧p≤1099511627776)∧(Dx.Sm 34359738368 v.hi∧(0:Int)≤p∧p≤1099511627776)∧true=true∧Q (Tv.sv (Sv.agg (ivL true (Vx.mk (cutD v.lo p false) (cutD v.hi p true)))))):=by kernel_rfl
theorem gTrim_ok:SpecOk Tryz.prog 40 gTrim :=
  specK_ok (envOk tys2_ok sRef4_ok) mixed Tryz.func40 rfl (by decide) (by decide) fun (v:Vx) _ (p:Int) _ hp=>⟨fun _=>none,0,(gTrim_vc v p _).mpr ⟨⟨hp.1.1,hp.2⟩,⟨hp.1.2,hp.2⟩,rfl,rfl⟩⟩
def gNeg:Spec:=specK [.v] fun (v:Vx)=>(some (eB 4611686018427387904 v.lo∧eB 4611686018427387904 v.hi),vT (turnV v))
theorem gNeg_vc(v:Vx)(Q:Tv→Prop):execF ⟨tys2,sRef4⟩ (fun _=>none) 0 Tryz.f42 [.agg (ivL false v)] Q=(eB 4611686018427387904 v.hi∧eB 4611686018427387904 v.lo∧true=true∧Q (Tv.sv (Sv.agg (ivL true (Vx.mk (negD v.hi) (negD v.lo)))))):=by kernel_rfl
theorem gNeg_ok:SpecOk Tryz.prog 42 gNeg :=
  specK_ok (envOk tys2_ok sRef4_ok) mixed Tryz.func42 rfl (by decide) (by decide) fun (v:Vx) _ hp=>⟨fun _=>none,0,(gNeg_vc v _).mpr ⟨hp.2,hp.1,rfl,rfl⟩⟩
def sameV(v u:Vx):Bool:=sameD v.lo u.lo && sameD v.hi u.hi
def gSame:Spec:=specK [.v,.v] fun (v:Vx) (u:Vx)=>(none,bT (sameV v u))
theorem gSame_vc(v u:Vx)(Q:Tv→Prop):execF ⟨tys2,sRef4⟩ (fun _=>none) 0 Tryz.f6 [.agg (ivL false v),.agg (ivL false u)] Q=(br (sameD v.lo u.lo) (Q (Tv.sv (Sv.one (At.bool (sameD v.hi u.hi))))) (Q (Tv.sv (Sv.one (At.bool false))))):=by kernel_rfl
theorem gSame_ok:SpecOk Tryz.prog 6 gSame :=
  specK_ok (envOk tys2_ok sRef4_ok) mixed Tryz.func6 rfl (by decide) (by decide) fun (v:Vx) _ (u:Vx) _ _=>⟨fun _=>none,0,by
    show execF _ _ _ _ _ (fun t=>t=bT (sameV v u))
    refine (gSame_vc v u _).mpr (br_intro (fun h=>?_) fun h=>?_)<;>rw [sameV,h]<;>rfl⟩
def sG1:List (FuncId×Spec):=[(13,gRight),(14,gRoom),(40,gTrim),(42,gNeg),(6,gSame)] ++ sRef4
theorem sG1_ok:SpecsOk Tryz.prog sG1:=⟨gRight_ok,gRoom_ok,gTrim_ok,gNeg_ok,gSame_ok,sRef4_ok⟩
def sG2:List (FuncId×Spec):=[] ++ sG1
theorem sG2_ok:SpecsOk Tryz.prog sG2:=sG1_ok
section
variable {f:Nat} {sq:Fx} {w:Int} {x:Rat}
end
theorem lost_iff(n:Int)(k:Nat):lostB n k=true↔n % 2^k≠0:=by unfold lostB;simp
theorem amt_split(m:Int)(k:Nat):(m:Rat)*p2 (-(k:Int))=((m/2^k:Int):Rat)+((m % 2^k:Int):Rat)*p2 (-(k:Int)):=by
  have p:=two_pow_pos k
  have h:=Int.mul_ediv_add_emod m (2^k)
  have e:p2 (k:Int)=((2^k:Int):Rat):=p2_nat k
  have i:=p2_neg (k:Int)
  conv=>lhs;lhs;rw [←h]
  rw [rcA,rcM,←e]
  grind
section
variable {t:Dx}
end
def spK6:LKeep:=⟨[0,4,3,2],[(0,6),(8,6)],11⟩
def spSt6(cs:List At)(j:Int)(v:Vx):List (Nat×Tv)×List (Nat×Nat×At) :=
  ([(0,.sv (.one (.rows false 3 4 cs))),(4,iT j),(3,.sv (.one (.ptr 8 0))),(2,.sv (.one (.ptr 0 0)))],
   [(0,0,.bool false),(0,1,.words true []),(0,2,.int .i64 0),(0,3,.bool false),(0,4,.words true []),(0,5,.int .i64 0),(8,0,.bool v.lo.neg),(8,1,.words false v.lo.xs),(8,2,.int .i64 v.lo.e),(8,3,.bool v.hi.neg),(8,4,.words false v.hi.xs),(8,5,.int .i64 v.hi.e)])
def c4(a b c d:Dx):List At:=dyL false a ++ (dyL false b ++ (dyL false c ++ dyL false d))
theorem gSpan_vc(a b c d:Dx)(v1 v2 v3:Vx)(Q:Tv→Prop):execF ⟨tys2,sRef4⟩ (invAt 3 (.cuts spK6 [spSt6 (c4 a b c d) 1 ⟨a,a⟩,spSt6 (c4 a b c d) 2 v1,spSt6 (c4 a b c d) 3 v2,spSt6 (c4 a b c d) 4 v3])) 0 Tryz.f44 [.one (.rows false 3 4 (c4 a b c d))] Q=(((0:Int)≤0∧(0:Int)<(↑(4:Nat):Int))∧((0:Int)≤0∧(0:Int)<(↑(4:Nat):Int))∧true=true∧true=true∧Sg.mk [(0,Tv.sv (Sv.one (At.rows false 3 4 (At.bool a.neg :: At.words false a.xs :: At.int .i64 a.e :: At.bool b.neg :: At.words false b.xs :: At.int .i64 b.e :: ivL false (Vx.mk c d))))),(4,iT 1),(3,Tv.sv (Sv.one (At.ptr ((1:Nat)+7) 0))),(2,Tv.sv (Sv.one (At.ptr 0 0)))] [(0,0,At.bool false),(0,1,At.words true []),(0,2,At.int .i64 0),(0,3,At.bool false),(0,4,At.words true []),(0,5,At.int .i64 0),(8,0,At.bool a.neg),(8,1,At.words false a.xs),(8,2,At.int .i64 a.e),(8,3,At.bool a.neg),(8,4,At.words false a.xs),(8,5,At.int .i64 a.e)] 11=Sg.mk [(0,Tv.sv (Sv.one (At.rows false 3 4 (At.bool a.neg :: At.words false a.xs :: At.int .i64 a.e :: At.bool b.neg :: At.words false b.xs :: At.int .i64 b.e :: ivL false (Vx.mk c d))))),(4,iT 1),(3,Tv.sv (Sv.one (At.ptr 8 0))),(2,Tv.sv (Sv.one (At.ptr 0 0)))] [(0,0,At.bool false),(0,1,At.words true []),(0,2,At.int .i64 0),(0,3,At.bool false),(0,4,At.words true []),(0,5,At.int .i64 0),(8,0,At.bool a.neg),(8,1,At.words false a.xs),(8,2,At.int .i64 a.e),(8,3,At.bool a.neg),(8,4,At.words false a.xs),(8,5,At.int .i64 a.e)] 11∧(((0:Int)≤1∧(1:Int)<(↑(4:Nat):Int))∧(Dx.Sm 34359738368 b∧Dx.Sm 34359738368 a)∧true=true∧br (ltI (cmpD b a) 0) (((0:Int)≤1∧(1:Int)<(↑(4:Nat):Int))∧((0:Int)≤1∧(1:Int)<(↑(4:Nat):Int))∧(Dx.Sm 34359738368 b∧Dx.Sm 34359738368 a)∧true=true∧br (ltI 0 (cmpD b a)) (((0:Int)≤1∧(1:Int)<(↑(4:Nat):Int))∧inR ((1:Int)+1)∧true=true∧Sg.mk [(0,Tv.sv (Sv.one (At.rows false 3 4 (At.bool a.neg :: At.words false a.xs :: At.int .i64 a.e :: At.bool b.neg :: At.words false b.xs :: At.int .i64 b.e :: ivL false (Vx.mk c d))))),(4,iT ((1:Int)+1)),(3,Tv.sv (Sv.one (At.ptr 8 0))),(2,Tv.sv (Sv.one (At.ptr 0 0)))] [(0,0,At.bool false),(0,1,At.words true []),(0,2,At.int .i64 0),(0,3,At.bool false),(0,4,At.words true []),(0,5,At.int .i64 0),(8,0,At.bool b.neg),(8,1,At.words false b.xs),(8,2,At.int .i64 b.e),(8,3,At.bool b.neg),(8,4,At.words false b.xs),(8,5,At.int .i64 b.e)] 11=Sg.mk [(0,Tv.sv (Sv.one (At.rows false 3 4 (At.bool a.neg :: At.words false a.xs :: At.int .i64 a.e :: At.bool b.neg :: At.words false b.xs :: At.int .i64 b.e :: ivL false (Vx.mk c d))))),(4,iT 2),(3,Tv.sv (Sv.one (At.ptr 8 0))),(2,Tv.sv (Sv.one (At.ptr 0 0)))] [(0,0,At.bool false),(0,1,At.words true []),(0,2,At.int .i64 0),(0,3,At.bool false),(0,4,At.words true []),(0,5,At.int .i64 0),(8,0,At.bool v1.lo.neg),(8,1,At.words false v1.lo.xs),(8,2,At.int .i64 v1.lo.e),(8,3,At.bool v1.hi.neg),(8,4,At.words false v1.hi.xs),(8,5,At.int .i64 v1.hi.e)] 11) (inR ((1:Int)+1)∧true=true∧Sg.mk [(0,Tv.sv (Sv.one (At.rows false 3 4 (At.bool a.neg :: At.words false a.xs :: At.int .i64 a.e :: At.bool b.neg :: At.words false b.xs :: At.int .i64 b.e :: ivL false (Vx.mk c d))))),(4,iT ((1:Int)+1)),(3,Tv.sv (Sv.one (At.ptr 8 0))),(2,Tv.sv (Sv.one (At.ptr 0 0)))] [(0,0,At.bool false),(0,1,At.words true []),(0,2,At.int .i64 0),(0,3,At.bool false),(0,4,At.words true []),(0,5,At.int .i64 0),(8,0,At.bool b.neg),(8,1,At.words false b.xs),(8,2,At.int .i64 b.e),(8,3,At.bool a.neg),(8,4,At.words false a.xs),(8,5,At.int .i64 a.e)] 11=Sg.mk [(0,Tv.sv (Sv.one (At.rows false 3 4 (At.bool a.neg :: At.words false a.xs :: At.int .i64 a.e :: At.bool b.neg :: At.words false b.xs :: At.int .i64 b.e :: ivL false (Vx.mk c d))))),(4,iT 2),(3,Tv.sv (Sv.one (At.ptr 8 0))),(2,Tv.sv (Sv.one (At.ptr 0 0)))] [(0,0,At.bool false),(0,1,At.words true []),(0,2,At.int .i64 0),(0,3,At.bool false),(0,4,At.words true []),(0,5,At.int .i64 0),(8,0,At.bool v1.lo.neg),(8,1,At.words false v1.lo.xs),(8,2,At.int .i64 v1.lo.e),(8,3,At.bool v1.hi.neg),(8,4,At.words false v1.hi.xs),(8,5,At.int .i64 v1.hi.e)] 11)) (((0:Int)≤1∧(1:Int)<(↑(4:Nat):Int))∧(Dx.Sm 34359738368 b∧Dx.Sm 34359738368 a)∧true=true∧br (ltI 0 (cmpD b a)) (((0:Int)≤1∧(1:Int)<(↑(4:Nat):Int))∧inR ((1:Int)+1)∧true=true∧Sg.mk [(0,Tv.sv (Sv.one (At.rows false 3 4 (At.bool a.neg :: At.words false a.xs :: At.int .i64 a.e :: At.bool b.neg :: At.words false b.xs :: At.int .i64 b.e :: ivL false (Vx.mk c d))))),(4,iT ((1:Int)+1)),(3,Tv.sv (Sv.one (At.ptr 8 0))),(2,Tv.sv (Sv.one (At.ptr 0 0)))] [(0,0,At.bool false),(0,1,At.words true []),(0,2,At.int .i64 0),(0,3,At.bool false),(0,4,At.words true []),(0,5,At.int .i64 0),(8,0,At.bool a.neg),(8,1,At.words false a.xs),(8,2,At.int .i64 a.e),(8,3,At.bool b.neg),(8,4,At.words false b.xs),(8,5,At.int .i64 b.e)] 11=Sg.mk [(0,Tv.sv (Sv.one (At.rows false 3 4 (At.bool a.neg :: At.words false a.xs :: At.int .i64 a.e :: At.bool b.neg :: At.words false b.xs :: At.int .i64 b.e :: ivL false (Vx.mk c d))))),(4,iT 2),(3,Tv.sv (Sv.one (At.ptr 8 0))),(2,Tv.sv (Sv.one (At.ptr 0 0)))] [(0,0,At.bool false),(0,1,At.words true []),(0,2,At.int .i64 0),(0,3,At.bool false),(0,4,At.words true []),(0,5,At.int .i64 0),(8,0,At.bool v1.lo.neg),(8,1,At.words false v1.lo.xs),(8,2,At.int .i64 v1.lo.e),(8,3,At.bool v1.hi.neg),(8,4,At.words false v1.hi.xs),(8,5,At.int .i64 v1.hi.e)] 11) (inR ((1:Int)+1)∧true=true∧Sg.mk [(0,Tv.sv (Sv.one (At.rows false 3 4 (At.bool a.neg :: At.words false a.xs :: At.int .i64 a.e :: At.bool b.neg :: At.words false b.xs :: At.int .i64 b.e :: ivL false (Vx.mk c d))))),(4,iT ((1:Int)+1)),(3,Tv.sv (Sv.one (At.ptr 8 0))),(2,Tv.sv (Sv.one (At.ptr 0 0)))] [(0,0,At.bool false),(0,1,At.words true []),(0,2,At.int .i64 0),(0,3,At.bool false),(0,4,At.words true []),(0,5,At.int .i64 0),(8,0,At.bool a.neg),(8,1,At.words false a.xs),(8,2,At.int .i64 a.e),(8,3,At.bool a.neg),(8,4,At.words false a.xs),(8,5,At.int .i64 a.e)] 11=Sg.mk [(0,Tv.sv (Sv.one (At.rows false 3 4 (At.bool a.neg :: At.words false a.xs :: At.int .i64 a.e :: At.bool b.neg :: At.words false b.xs :: At.int .i64 b.e :: ivL false (Vx.mk c d))))),(4,iT 2),(3,Tv.sv (Sv.one (At.ptr 8 0))),(2,Tv.sv (Sv.one (At.ptr 0 0)))] [(0,0,At.bool false),(0,1,At.words true []),(0,2,At.int .i64 0),(0,3,At.bool false),(0,4,At.words true []),(0,5,At.int .i64 0),(8,0,At.bool v1.lo.neg),(8,1,At.words false v1.lo.xs),(8,2,At.int .i64 v1.lo.e),(8,3,At.bool v1.hi.neg),(8,4,At.words false v1.hi.xs),(8,5,At.int .i64 v1.hi.e)] 11)))∧(((0:Int)≤2∧(2:Int)<(↑(4:Nat):Int))∧(Dx.Sm 34359738368 c∧Dx.Sm 34359738368 v1.lo)∧true=true∧br (ltI (cmpD c v1.lo) 0) (((0:Int)≤2∧(2:Int)<(↑(4:Nat):Int))∧((0:Int)≤2∧(2:Int)<(↑(4:Nat):Int))∧(Dx.Sm 34359738368 c∧Dx.Sm 34359738368 v1.hi)∧true=true∧br (ltI 0 (cmpD c v1.hi)) (((0:Int)≤2∧(2:Int)<(↑(4:Nat):Int))∧inR ((2:Int)+1)∧true=true∧Sg.mk [(0,Tv.sv (Sv.one (At.rows false 3 4 (At.bool a.neg :: At.words false a.xs :: At.int .i64 a.e :: At.bool b.neg :: At.words false b.xs :: At.int .i64 b.e :: ivL false (Vx.mk c d))))),(4,iT ((2:Int)+1)),(3,Tv.sv (Sv.one (At.ptr 8 0))),(2,Tv.sv (Sv.one (At.ptr 0 0)))] [(0,0,At.bool false),(0,1,At.words true []),(0,2,At.int .i64 0),(0,3,At.bool false),(0,4,At.words true []),(0,5,At.int .i64 0),(8,0,At.bool c.neg),(8,1,At.words false c.xs),(8,2,At.int .i64 c.e),(8,3,At.bool c.neg),(8,4,At.words false c.xs),(8,5,At.int .i64 c.e)] 11=Sg.mk [(0,Tv.sv (Sv.one (At.rows false 3 4 (At.bool a.neg :: At.words false a.xs :: At.int .i64 a.e :: At.bool b.neg :: At.words false b.xs :: At.int .i64 b.e :: ivL false (Vx.mk c d))))),(4,iT 3),(3,Tv.sv (Sv.one (At.ptr 8 0))),(2,Tv.sv (Sv.one (At.ptr 0 0)))] [(0,0,At.bool false),(0,1,At.words true []),(0,2,At.int .i64 0),(0,3,At.bool false),(0,4,At.words true []),(0,5,At.int .i64 0),(8,0,At.bool v2.lo.neg),(8,1,At.words false v2.lo.xs),(8,2,At.int .i64 v2.lo.e),(8,3,At.bool v2.hi.neg),(8,4,At.words false v2.hi.xs),(8,5,At.int .i64 v2.hi.e)] 11) (inR ((2:Int)+1)∧true=true∧Sg.mk [(0,Tv.sv (Sv.one (At.rows false 3 4 (At.bool a.neg :: At.words false a.xs :: At.int .i64 a.e :: At.bool b.neg :: At.words false b.xs :: At.int .i64 b.e :: ivL false (Vx.mk c d))))),(4,iT ((2:Int)+1)),(3,Tv.sv (Sv.one (At.ptr 8 0))),(2,Tv.sv (Sv.one (At.ptr 0 0)))] [(0,0,At.bool false),(0,1,At.words true []),(0,2,At.int .i64 0),(0,3,At.bool false),(0,4,At.words true []),(0,5,At.int .i64 0),(8,0,At.bool c.neg),(8,1,At.words false c.xs),(8,2,At.int .i64 c.e),(8,3,At.bool v1.hi.neg),(8,4,At.words false v1.hi.xs),(8,5,At.int .i64 v1.hi.e)] 11=Sg.mk [(0,Tv.sv (Sv.one (At.rows false 3 4 (At.bool a.neg :: At.words false a.xs :: At.int .i64 a.e :: At.bool b.neg :: At.words false b.xs :: At.int .i64 b.e :: ivL false (Vx.mk c d))))),(4,iT 3),(3,Tv.sv (Sv.one (At.ptr 8 0))),(2,Tv.sv (Sv.one (At.ptr 0 0)))] [(0,0,At.bool false),(0,1,At.words true []),(0,2,At.int .i64 0),(0,3,At.bool false),(0,4,At.words true []),(0,5,At.int .i64 0),(8,0,At.bool v2.lo.neg),(8,1,At.words false v2.lo.xs),(8,2,At.int .i64 v2.lo.e),(8,3,At.bool v2.hi.neg),(8,4,At.words false v2.hi.xs),(8,5,At.int .i64 v2.hi.e)] 11)) (((0:Int)≤2∧(2:Int)<(↑(4:Nat):Int))∧(Dx.Sm 34359738368 c∧Dx.Sm 34359738368 v1.hi)∧true=true∧br (ltI 0 (cmpD c v1.hi)) (((0:Int)≤2∧(2:Int)<(↑(4:Nat):Int))∧inR ((2:Int)+1)∧true=true∧Sg.mk [(0,Tv.sv (Sv.one (At.rows false 3 4 (At.bool a.neg :: At.words false a.xs :: At.int .i64 a.e :: At.bool b.neg :: At.words false b.xs :: At.int .i64 b.e :: ivL false (Vx.mk c d))))),(4,iT ((2:Int)+1)),(3,Tv.sv (Sv.one (At.ptr 8 0))),(2,Tv.sv (Sv.one (At.ptr 0 0)))] [(0,0,At.bool false),(0,1,At.words true []),(0,2,At.int .i64 0),(0,3,At.bool false),(0,4,At.words true []),(0,5,At.int .i64 0),(8,0,At.bool v1.lo.neg),(8,1,At.words false v1.lo.xs),(8,2,At.int .i64 v1.lo.e),(8,3,At.bool c.neg),(8,4,At.words false c.xs),(8,5,At.int .i64 c.e)] 11=Sg.mk [(0,Tv.sv (Sv.one (At.rows false 3 4 (At.bool a.neg :: At.words false a.xs :: At.int .i64 a.e :: At.bool b.neg :: At.words false b.xs :: At.int .i64 b.e :: ivL false (Vx.mk c d))))),(4,iT 3),(3,Tv.sv (Sv.one (At.ptr 8 0))),(2,Tv.sv (Sv.one (At.ptr 0 0)))] [(0,0,At.bool false),(0,1,At.words true []),(0,2,At.int .i64 0),(0,3,At.bool false),(0,4,At.words true []),(0,5,At.int .i64 0),(8,0,At.bool v2.lo.neg),(8,1,At.words false v2.lo.xs),(8,2,At.int .i64 v2.lo.e),(8,3,At.bool v2.hi.neg),(8,4,At.words false v2.hi.xs),(8,5,At.int .i64 v2.hi.e)] 11) (inR ((2:Int)+1)∧true=true∧Sg.mk [(0,Tv.sv (Sv.one (At.rows false 3 4 (At.bool a.neg :: At.words false a.xs :: At.int .i64 a.e :: At.bool b.neg :: At.words false b.xs :: At.int .i64 b.e :: ivL false (Vx.mk c d))))),(4,iT ((2:Int)+1)),(3,Tv.sv (Sv.one (At.ptr 8 0))),(2,Tv.sv (Sv.one (At.ptr 0 0)))] [(0,0,At.bool false),(0,1,At.words true []),(0,2,At.int .i64 0),(0,3,At.bool false),(0,4,At.words true []),(0,5,At.int .i64 0),(8,0,At.bool v1.lo.neg),(8,1,At.words false v1.lo.xs),(8,2,At.int .i64 v1.lo.e),(8,3,At.bool v1.hi.neg),(8,4,At.words false v1.hi.xs),(8,5,At.int .i64 v1.hi.e)] 11=Sg.mk [(0,Tv.sv (Sv.one (At.rows false 3 4 (At.bool a.neg :: At.words false a.xs :: At.int .i64 a.e :: At.bool b.neg :: At.words false b.xs :: At.int .i64 b.e :: ivL false (Vx.mk c d))))),(4,iT 3),(3,Tv.sv (Sv.one (At.ptr 8 0))),(2,Tv.sv (Sv.one (At.ptr 0 0)))] [(0,0,At.bool false),(0,1,At.words true []),(0,2,At.int .i64 0),(0,3,At.bool false),(0,4,At.words true []),(0,5,At.int .i64 0),(8,0,At.bool v2.lo.neg),(8,1,At.words false v2.lo.xs),(8,2,At.int .i64 v2.lo.e),(8,3,At.bool v2.hi.neg),(8,4,At.words false v2.hi.xs),(8,5,At.int .i64 v2.hi.e)] 11)))∧(((0:Int)≤3∧(3:Int)<(↑(4:Nat):Int))∧(Dx.Sm 34359738368 d∧Dx.Sm 34359738368 v2.lo)∧true=true∧br (ltI (cmpD d v2.lo) 0) (((0:Int)≤3∧(3:Int)<(↑(4:Nat):Int))∧((0:Int)≤3∧(3:Int)<(↑(4:Nat):Int))∧(Dx.Sm 34359738368 d∧Dx.Sm 34359738368 v2.hi)∧true=true∧br (ltI 0 (cmpD d v2.hi)) (((0:Int)≤3∧(3:Int)<(↑(4:Nat):Int))∧inR ((3:Int)+1)∧true=true∧Sg.mk [(0,Tv.sv (Sv.one (At.rows false 3 4 (At.bool a.neg :: At.words false a.xs :: At.int .i64 a.e :: At.bool b.neg :: At.words false b.xs :: At.int .i64 b.e :: ivL false (Vx.mk c d))))),(4,iT ((3:Int)+1)),(3,Tv.sv (Sv.one (At.ptr 8 0))),(2,Tv.sv (Sv.one (At.ptr 0 0)))] [(0,0,At.bool false),(0,1,At.words true []),(0,2,At.int .i64 0),(0,3,At.bool false),(0,4,At.words true []),(0,5,At.int .i64 0),(8,0,At.bool d.neg),(8,1,At.words false d.xs),(8,2,At.int .i64 d.e),(8,3,At.bool d.neg),(8,4,At.words false d.xs),(8,5,At.int .i64 d.e)] 11=Sg.mk [(0,Tv.sv (Sv.one (At.rows false 3 4 (At.bool a.neg :: At.words false a.xs :: At.int .i64 a.e :: At.bool b.neg :: At.words false b.xs :: At.int .i64 b.e :: ivL false (Vx.mk c d))))),(4,iT 4),(3,Tv.sv (Sv.one (At.ptr 8 0))),(2,Tv.sv (Sv.one (At.ptr 0 0)))] [(0,0,At.bool false),(0,1,At.words true []),(0,2,At.int .i64 0),(0,3,At.bool false),(0,4,At.words true []),(0,5,At.int .i64 0),(8,0,At.bool v3.lo.neg),(8,1,At.words false v3.lo.xs),(8,2,At.int .i64 v3.lo.e),(8,3,At.bool v3.hi.neg),(8,4,At.words false v3.hi.xs),(8,5,At.int .i64 v3.hi.e)] 11) (inR ((3:Int)+1)∧true=true∧Sg.mk [(0,Tv.sv (Sv.one (At.rows false 3 4 (At.bool a.neg :: At.words false a.xs :: At.int .i64 a.e :: At.bool b.neg :: At.words false b.xs :: At.int .i64 b.e :: ivL false (Vx.mk c d))))),(4,iT ((3:Int)+1)),(3,Tv.sv (Sv.one (At.ptr 8 0))),(2,Tv.sv (Sv.one (At.ptr 0 0)))] [(0,0,At.bool false),(0,1,At.words true []),(0,2,At.int .i64 0),(0,3,At.bool false),(0,4,At.words true []),(0,5,At.int .i64 0),(8,0,At.bool d.neg),(8,1,At.words false d.xs),(8,2,At.int .i64 d.e),(8,3,At.bool v2.hi.neg),(8,4,At.words false v2.hi.xs),(8,5,At.int .i64 v2.hi.e)] 11=Sg.mk [(0,Tv.sv (Sv.one (At.rows false 3 4 (At.bool a.neg :: At.words false a.xs :: At.int .i64 a.e :: At.bool b.neg :: At.words false b.xs :: At.int .i64 b.e :: ivL false (Vx.mk c d))))),(4,iT 4),(3,Tv.sv (Sv.one (At.ptr 8 0))),(2,Tv.sv (Sv.one (At.ptr 0 0)))] [(0,0,At.bool false),(0,1,At.words true []),(0,2,At.int .i64 0),(0,3,At.bool false),(0,4,At.words true []),(0,5,At.int .i64 0),(8,0,At.bool v3.lo.neg),(8,1,At.words false v3.lo.xs),(8,2,At.int .i64 v3.lo.e),(8,3,At.bool v3.hi.neg),(8,4,At.words false v3.hi.xs),(8,5,At.int .i64 v3.hi.e)] 11)) (((0:Int)≤3∧(3:Int)<(↑(4:Nat):Int))∧(Dx.Sm 34359738368 d∧Dx.Sm 34359738368 v2.hi)∧true=true∧br (ltI 0 (cmpD d v2.hi)) (((0:Int)≤3∧(3:Int)<(↑(4:Nat):Int))∧inR ((3:Int)+1)∧true=true∧Sg.mk [(0,Tv.sv (Sv.one (At.rows false 3 4 (At.bool a.neg :: At.words false a.xs :: At.int .i64 a.e :: At.bool b.neg :: At.words false b.xs :: At.int .i64 b.e :: ivL false (Vx.mk c d))))),(4,iT ((3:Int)+1)),(3,Tv.sv (Sv.one (At.ptr 8 0))),(2,Tv.sv (Sv.one (At.ptr 0 0)))] [(0,0,At.bool false),(0,1,At.words true []),(0,2,At.int .i64 0),(0,3,At.bool false),(0,4,At.words true []),(0,5,At.int .i64 0),(8,0,At.bool v2.lo.neg),(8,1,At.words false v2.lo.xs),(8,2,At.int .i64 v2.lo.e),(8,3,At.bool d.neg),(8,4,At.words false d.xs),(8,5,At.int .i64 d.e)] 11=Sg.mk [(0,Tv.sv (Sv.one (At.rows false 3 4 (At.bool a.neg :: At.words false a.xs :: At.int .i64 a.e :: At.bool b.neg :: At.words false b.xs :: At.int .i64 b.e :: ivL false (Vx.mk c d))))),(4,iT 4),(3,Tv.sv (Sv.one (At.ptr 8 0))),(2,Tv.sv (Sv.one (At.ptr 0 0)))] [(0,0,At.bool false),(0,1,At.words true []),(0,2,At.int .i64 0),(0,3,At.bool false),(0,4,At.words true []),(0,5,At.int .i64 0),(8,0,At.bool v3.lo.neg),(8,1,At.words false v3.lo.xs),(8,2,At.int .i64 v3.lo.e),(8,3,At.bool v3.hi.neg),(8,4,At.words false v3.hi.xs),(8,5,At.int .i64 v3.hi.e)] 11) (inR ((3:Int)+1)∧true=true∧Sg.mk [(0,Tv.sv (Sv.one (At.rows false 3 4 (At.bool a.neg :: At.words false a.xs :: At.int .i64 a.e :: At.bool b.neg :: At.words false b.xs :: At.int .i64 b.e :: ivL false (Vx.mk c d))))),(4,iT ((3:Int)+1)),(3,Tv.sv (Sv.one (At.ptr 8 0))),(2,Tv.sv (Sv.one (At.ptr 0 0)))] [(0,0,At.bool false),(0,1,At.words true []),(0,2,At.int .i64 0),(0,3,At.bool false),(0,4,At.words true []),(0,5,At.int .i64 0),(8,0,At.bool v2.lo.neg),(8,1,At.words false v2.lo.xs),(8,2,At.int .i64 v2.lo.e),(8,3,At.bool v2.hi.neg),(8,4,At.words false v2.hi.xs),(8,5,At.int .i64 v2.hi.e)] 11=Sg.mk [(0,Tv.sv (Sv.one (At.rows false 3 4 (At.bool a.neg :: At.words false a.xs :: At.int .i64 a.e :: At.bool b.neg :: At.words false b.xs :: At.int .i64 b.e :: ivL false (Vx.mk c d))))),(4,iT 4),(3,Tv.sv (Sv.one (At.ptr 8 0))),(2,Tv.sv (Sv.one (At.ptr 0 0)))] [(0,0,At.bool false),(0,1,At.words true []),(0,2,At.int .i64 0),(0,3,At.bool false),(0,4,At.words true []),(0,5,At.int .i64 0),(8,0,At.bool v3.lo.neg),(8,1,At.words false v3.lo.xs),(8,2,At.int .i64 v3.lo.e),(8,3,At.bool v3.hi.neg),(8,4,At.words false v3.hi.xs),(8,5,At.int .i64 v3.hi.e)] 11)))∧Q (Tv.sv (Sv.agg (ivL false v3)))∧True):=by kernel_rfl
theorem spanR{v:Vx}{d:Dx}{p:Vx→Prop}{N M:Nat}(hv:v.Sm N)(hd:d.Sm N)(hN:N≤M)(h:p (spanS v d)){I R:Prop}(hI:I)(hR:R){q1 q2 q3 q4:Prop}(h1:p ⟨d,d⟩→q1)(h2:p ⟨d,v.hi⟩→q2)(h3:p ⟨v.lo,d⟩→q3)(h4:p v→q4) :
    I∧(Dx.Sm M d∧Dx.Sm M v.lo)∧true=true∧br (ltI (cmpD d v.lo) 0) (I∧I∧(Dx.Sm M d∧Dx.Sm M v.hi)∧true=true∧br (ltI 0 (cmpD d v.hi)) (I∧R∧true=true∧q1) (R∧true=true∧q2)) (I∧(Dx.Sm M d∧Dx.Sm M v.hi)∧true=true∧br (ltI 0 (cmpD d v.hi)) (I∧R∧true=true∧q3) (R∧true=true∧q4)):=by
  have a:=hd.mono hN
  have b:=hv.1.mono hN
  have c:=hv.2.mono hN
  refine ⟨hI,⟨a,b⟩,rfl,br_intro (fun e1=>⟨hI,hI,⟨a,c⟩,rfl,br_intro (fun e2=>⟨hI,hR,rfl,h1 ?_⟩) fun e2=>⟨hR,rfl,h2 ?_⟩⟩) fun e1=>⟨hI,⟨a,c⟩,rfl,br_intro (fun e2=>⟨hI,hR,rfl,h3 ?_⟩) fun e2=>⟨hR,rfl,h4 ?_⟩⟩⟩
  · rwa [spanS,if_pos (ltI_true.1 e1),if_pos (ltI_true.1 e2)] at h
  · rwa [spanS,if_pos (ltI_true.1 e1),if_neg (ltI_false.1 e2)] at h
  · rwa [spanS,if_neg (ltI_false.1 e1),if_pos (ltI_true.1 e2)] at h
  · rwa [spanS,if_neg (ltI_false.1 e1),if_neg (ltI_false.1 e2)] at h
def gSpan:Spec:=fun l=>match l with
  | [.one (.rows false 3 4 [.bool n1,.words false x1,.int .i64 e1,.bool n2,.words false x2,.int .i64 e2,.bool n3,.words false x3,.int .i64 e3,.bool n4,.words false x4,.int .i64 e4])] =>
    (some (Dx.Sm 34359738368 ⟨n1,x1,e1⟩∧Dx.Sm 34359738368 ⟨n2,x2,e2⟩∧Dx.Sm 34359738368 ⟨n3,x3,e3⟩∧Dx.Sm 34359738368 ⟨n4,x4,e4⟩),vF (spanL ⟨n1,x1,e1⟩ [⟨n2,x2,e2⟩,⟨n3,x3,e3⟩,⟨n4,x4,e4⟩]))
  | _=>noSpec
theorem gSpan_ok:SpecOk Tryz.prog 44 gSpan :=
  specOk_at (envOk tys2_ok sRef4_ok) mixed Tryz.func44 rfl (by decide) 1 (by decide) fun l p t e hp=>by
    unfold gSpan at e
    split at e
    · rename_i n1 x1 e1 n2 x2 e2 n3 x3 e3 n4 x4 e4
      cases e
      obtain ⟨s1,s2,s3,s4⟩:=hp
      refine ⟨Nat.le_refl 1,_,0,(gSpan_vc ⟨n1,x1,e1⟩ ⟨n2,x2,e2⟩ ⟨n3,x3,e3⟩ ⟨n4,x4,e4⟩ (spanL ⟨n1,x1,e1⟩ [⟨n2,x2,e2⟩]) (spanL ⟨n1,x1,e1⟩ [⟨n2,x2,e2⟩,⟨n3,x3,e3⟩]) (spanL ⟨n1,x1,e1⟩ [⟨n2,x2,e2⟩,⟨n3,x3,e3⟩,⟨n4,x4,e4⟩]) _).mpr ?_⟩
      have t2:Vx.Sm 34359738368 (spanL ⟨n1,x1,e1⟩ [⟨n2,x2,e2⟩]):=spanS_sm ⟨s1,s1⟩ s2
      have t3:Vx.Sm 34359738368 (spanL ⟨n1,x1,e1⟩ [⟨n2,x2,e2⟩,⟨n3,x3,e3⟩]):=spanS_sm t2 s3
      refine ⟨⟨by omega,by omega⟩,⟨by omega,by omega⟩,rfl,rfl,rfl,?_,?_,?_,rfl,trivial⟩
      · refine spanR (p:=fun v=>spanL ⟨n1,x1,e1⟩ [⟨n2,x2,e2⟩]=v) ⟨s1,s1⟩ s2 (by omega) rfl ⟨by omega,by omega⟩ ⟨by omega,by omega⟩ ?_ ?_ ?_ ?_<;>exact fun e=>by rw [e];rfl
      · refine spanR (p:=fun v=>spanL ⟨n1,x1,e1⟩ [⟨n2,x2,e2⟩,⟨n3,x3,e3⟩]=v) t2 s3 (by omega) rfl ⟨by omega,by omega⟩ ⟨by omega,by omega⟩ ?_ ?_ ?_ ?_<;>exact fun e=>by rw [e];rfl
      · refine spanR (p:=fun v=>spanL ⟨n1,x1,e1⟩ [⟨n2,x2,e2⟩,⟨n3,x3,e3⟩,⟨n4,x4,e4⟩]=v) t3 s4 (by omega) rfl ⟨by omega,by omega⟩ ⟨by omega,by omega⟩ ?_ ?_ ?_ ?_<;>exact fun e=>by rw [e];rfl
    · cases e;exact hp.elim
def sGs:List (FuncId×Spec):=[(44,gSpan),(43,fTimes),(41,fPlus),(40,gTrim)]
theorem sGs_ok:SpecsOk Tryz.prog sGs:=⟨gSpan_ok,fTimes_ok,fPlus_ok,gTrim_ok,trivial⟩
theorem gPlus_vc(v u:Vx)(p:Int)(Q:Tv→Prop):execF ⟨tys2,sGs⟩ (fun _=>none) 0 Tryz.f15 [.agg (ivL false v),.agg (ivL false u),.one (.int .i64 p)] Q=((Dx.Sm 68719476736 v.lo∧Dx.Sm 68719476736 u.lo)∧(Dx.Sm 68719476736 v.hi∧Dx.Sm 68719476736 u.hi)∧(Vx.Sm 34359738368 (Vx.mk (plusD v.lo u.lo) (plusD v.hi u.hi))∧(0:Int)≤p∧p≤1099511627776)∧true=true∧Q (Tv.sv (Sv.agg (ivL true (trimV (Vx.mk (plusD v.lo u.lo) (plusD v.hi u.hi)) p))))):=by kernel_rfl
theorem gTimes_vc(v u:Vx)(p:Int)(Q:Tv→Prop):execF ⟨tys2,sGs⟩ (fun _=>none) 0 Tryz.f17 [.agg (ivL false v),.agg (ivL false u),.one (.int .i64 p)] Q=((Dx.Sm 68719476736 v.lo∧Dx.Sm 68719476736 u.lo)∧(Dx.Sm 68719476736 v.lo∧Dx.Sm 68719476736 u.hi)∧(Dx.Sm 68719476736 v.hi∧Dx.Sm 68719476736 u.lo)∧(Dx.Sm 68719476736 v.hi∧Dx.Sm 68719476736 u.hi)∧true=true∧(Dx.Sm 34359738368 (timesD v.lo u.lo)∧Dx.Sm 34359738368 (timesD v.lo u.hi)∧Dx.Sm 34359738368 (timesD v.hi u.lo)∧Dx.Sm 34359738368 (timesD v.hi u.hi))∧(Vx.Sm 34359738368 (spanL (timesD v.lo u.lo) [timesD v.lo u.hi,timesD v.hi u.lo,timesD v.hi u.hi])∧(0:Int)≤p∧p≤1099511627776)∧Q (Tv.sv (Sv.agg (ivL true (trimV (spanL (timesD v.lo u.lo) [timesD v.lo u.hi,timesD v.hi u.lo,timesD v.hi u.hi]) p))))):=by kernel_rfl
def gPlus:Spec:=specK [.v,.v,.i .i64] fun (v:Vx) (u:Vx) (p:Int)=>(some (v.Sm 268435456∧u.Sm 268435456∧0≤p∧p≤1099511627776),vT (plusV v u p))
theorem gPlus_ok:SpecOk Tryz.prog 15 gPlus :=
  specK_ok (envOk tys2_ok sGs_ok) mixed Tryz.func15 rfl (by decide) (by decide) fun (v:Vx) hv (u:Vx) hu (p:Int) _ hp=>⟨fun _=>none,0,by
    obtain ⟨⟨a1,a2⟩,⟨b1,b2⟩,p0,p1⟩:v.Sm 268435456∧u.Sm 268435456∧0≤p∧p≤1099511627776:=hp
    have s1:=plusD_sm (Dx.Wf.m0 hv.1) (Dx.Wf.m0 hu.1) a1 b1
    have s2:=plusD_sm (Dx.Wf.m0 hv.2) (Dx.Wf.m0 hu.2) a2 b2
    exact (gPlus_vc v u p _).mpr ⟨⟨a1.mono (by omega),b1.mono (by omega)⟩,⟨a2.mono (by omega),b2.mono (by omega)⟩,⟨⟨s1.mono (by omega),s2.mono (by omega)⟩,p0,p1⟩,rfl,rfl⟩⟩
def gTimes:Spec:=specK [.v,.v,.i .i64] fun (v:Vx) (u:Vx) (p:Int)=>(some (v.Sm 268435456∧u.Sm 268435456∧0≤p∧p≤1099511627776),vT (timesV v u p))
theorem gTimes_ok:SpecOk Tryz.prog 17 gTimes :=
  specK_ok (envOk tys2_ok sGs_ok) mixed Tryz.func17 rfl (by decide) (by decide) fun (v:Vx) hv (u:Vx) hu (p:Int) _ hp=>⟨fun _=>none,0,by
    obtain ⟨sv,su,p0,p1⟩:v.Sm 268435456∧u.Sm 268435456∧0≤p∧p≤1099511627776:=hp
    have v1:=Dx.Wf.m0 hv.1
    have v2:=Dx.Wf.m0 hv.2
    have u1:=Dx.Wf.m0 hu.1
    have u2:=Dx.Wf.m0 hu.2
    have sz:∀ {a b:Dx},0≤a.m→0≤b.m→a.Sm 268435456→b.Sm 268435456→(timesD a b).Sm 34359738368:=fun ha hb sa sb=>(timesD_sm ha hb sa sb).mono (by omega)
    have sm:∀ {a:Dx},a.Sm 268435456→a.Sm 68719476736:=fun h=>h.mono (by omega)
    exact (gTimes_vc v u p _).mpr ⟨⟨sm sv.1,sm su.1⟩,⟨sm sv.1,sm su.2⟩,⟨sm sv.2,sm su.1⟩,⟨sm sv.2,sm su.2⟩,rfl,⟨sz v1 u1 sv.1 su.1,sz v1 u2 sv.1 su.2,sz v2 u1 sv.2 su.1,sz v2 u2 sv.2 su.2⟩,⟨(prodV_sm (Vx.Wf.p hv) (Vx.Wf.p hu) sv su).mono (by omega),p0,p1⟩,rfl⟩⟩
def sG3:List (FuncId×Spec):=[(15,gPlus),(17,gTimes)] ++ sG2
theorem sG3_ok:SpecsOk Tryz.prog sG3:=⟨gPlus_ok,gTimes_ok,sG2_ok⟩
def OneF(d:Dx):Prop:=∃ n m e,(0:Int)≤m∧d=mkD n m e
theorem OneF.p{d:Dx}(h:OneF d):0≤d.m:=by obtain ⟨n,m,e,h,rfl⟩:=h;exact mkD_p
theorem OneF.odd{d:Dx}(h:OneF d)(h0:d.m≠0):d.m % 2=1:=by
  obtain ⟨n,m,e,h,rfl⟩:=h
  have:m≠0:=fun k=>h0 ((mkD_m_zero (neg:=n) (e:=e) h).2 k)
  exact mkD_odd (by omega)
theorem OneF.zero{d:Dx}(h:OneF d)(h0:d.m=0):d=⟨false,[],0⟩:=by
  obtain ⟨n,m,e,h,rfl⟩:=h
  rw [(mkD_m_zero (neg:=n) (e:=e) h).1 h0,mkD_zero]
theorem oneD_f{d:Dx}(hd:0≤d.m):OneF (oneD d):=⟨_,_,_,hd,rfl⟩
theorem cutD_f{d:Dx}{p:Int}{up:Bool}(hd:0≤d.m):OneF (cutD d p up):=by
  have m0:0≤(oneD d).m:=oneD_p
  unfold cutD cutX
  split
  · exact oneD_f hd
  · have:=Int.ediv_nonneg m0 (show (0:Int)≤2^((blen (oneD d).m:Int)-p).toNat by have:=two_pow_pos ((blen (oneD d).m:Int)-p).toNat;omega)
    exact ⟨_,_,_,by split<;>omega,rfl⟩
theorem OneF.xs{d:Dx}(h:OneF d):d.xs=ws d.m:=by obtain ⟨n,m,e,h,rfl⟩:=h;exact mkD_ws h
theorem p2_int_odd{a b:Int}{e f:Int}(h:(a:Rat)*p2 e=(b:Rat)*p2 f)(hef:e≤f):a=b*2^(f-e).toNat:=by
  have k:p2 f=p2 (f-e)*p2 e:=by rw [←p2_add];congr 1;omega
  rw [k,←Rat.mul_assoc,p2_toNat (show 0≤f-e by omega)] at h
  have h2:((a:Int):Rat)=((b*2^(f-e).toNat:Int):Rat):=by
    rw [rcM]
    refine Rat.le_antisymm ((mul_p2_le e).1 ?_) ((mul_p2_le e).1 ?_)<;>grind
  exact Rat.intCast_inj.1 h2
theorem sm_odd{d:Dx}(h:d.m % 2=1):d.sm % 2=1:=by unfold Dx.sm;split<;>omega
theorem OneF.ext{a b:Dx}(ha:OneF a)(hb:OneF b)(h:a.rv=b.rv):a=b:=by
  have pa:=ha.p
  have pb:=hb.p
  by_cases za:a.m=0
  · have e:b.rv=0:=by rw [←h];exact rv_zero za
    have zb:b.m=0:=by
      have:=(zeroB_rv pb).2 e
      simpa [Dx.zeroB] using this
    rw [ha.zero za,hb.zero zb]
  · have zb:b.m≠0:=fun zb=>za (by
      have e:a.rv=0:=by rw [h];exact rv_zero zb
      have:=(zeroB_rv pa).2 e
      simpa [Dx.zeroB] using this)
    have oa:=sm_odd (ha.odd za)
    have ob:=sm_odd (hb.odd zb)
    have he:a.e=b.e∧a.sm=b.sm:=by
      rcases Int.le_total a.e b.e with k | k
      · have q:=p2_int_odd (h:(a.sm:Rat)*p2 a.e=(b.sm:Rat)*p2 b.e) k
        generalize ht:(b.e-a.e).toNat=t at q
        cases t with
        | zero=>exact ⟨by omega,by simpa using q⟩
        | succ t=>rw [Int.pow_succ,←Int.mul_assoc] at q;omega
      · have q:=p2_int_odd (h.symm:(b.sm:Rat)*p2 b.e=(a.sm:Rat)*p2 a.e) k
        generalize ht:(a.e-b.e).toNat=t at q
        cases t with
        | zero=>exact ⟨by omega,by simpa using q.symm⟩
        | succ t=>rw [Int.pow_succ,←Int.mul_assoc] at q;omega
    have hs:=he.2
    have hm:a.neg=b.neg∧a.m=b.m:=by
      unfold Dx.sm at hs
      cases h1:a.neg<;>cases h2:b.neg<;>simp only [h1,h2,if_true,if_false,Bool.false_eq_true] at hs ⊢<;>first | (exfalso;omega) | exact ⟨trivial,by omega⟩
    have hx:a.xs=b.xs:=by rw [ha.xs,hb.xs,hm.2]
    cases a;cases b
    simp only [Dx.mk.injEq]
    exact ⟨hm.1,hx,he.1⟩
theorem div3_word{qs:List Int}(hq:Words qs){t:Int}{i q r:Nat}(hr:r<64)(hi:i=64*q+r)(e:val qs=2^(i+1)*t):nth qs q+2^r<18446744073709551616:=by
  have b:=bit_word hq hr hi
  have wq:=hq.nth q
  have p:=two_pow_pos i
  have pr:=two_pow_pos r
  rw [e,Int.pow_succ,Int.mul_assoc,Int.mul_ediv_cancel_left _ (by omega),Int.mul_emod_right] at b
  obtain ⟨s,hs⟩:∃ s,64=r+(s+1):=⟨63-r,by omega⟩
  have e64:(18446744073709551616:Int)=2^r*(2^s*2):=by
    have:(18446744073709551616:Int)=2^64:=by decide
    rw [this,hs,Int.pow_add,Int.pow_succ]
  have x1:nth qs q/2^r<2^s*2:=Int.ediv_lt_of_lt_mul pr (by rw [Int.mul_comm,←e64];exact wq.2)
  have dm:=Int.mul_ediv_add_emod (nth qs q) (2^r)
  have ml:=Int.emod_lt_of_pos (nth qs q) pr
  have x2:nth qs q/2^r+2≤2^s*2:=by omega
  have m:=imL x2 (show (0:Int)≤2^r by omega)
  rw [←e64,Int.mul_add] at m
  omega
structure Div3At (a b:Int) (qs:List Int) (rr:Int) (k M:Nat):Prop where
  len:qs.length=M
  wq:Words qs
  top:∃ t:Int,val qs=2^k*t
  eq:val qs*b+rr=a
  r0:0≤rr
  r1:rr<b*2^k
theorem div3At_start{a b:Int}{n M:Nat}(ha:0≤a)(hb:0<b)(hn:blen a=n+blen b):Div3At a b (List.replicate M 0) a (n+1) M:=by
  have p:=two_pow_pos (n+1)
  refine ⟨by simp,Words.zeros _,⟨0,by rw [val_zeros];simp⟩,by rw [val_zeros];simp,ha,?_⟩
  have h1:=blen_lt a
  have h2:=blen_ge hb
  rw [hn] at h1
  have bb:=blen_pos hb
  have m:=imR h2 (show (0:Int)≤2^(n+1) by omega)
  rw [←Int.pow_add,show blen b-1+(n+1)=n+blen b by omega] at m
  omega
theorem wpow_two(q:Nat):wpow q=2^(64*q):=by rw [wpow_eq]
theorem Div3At.yes{a b:Int}{qs:List Int}{rr:Int}{i q r M:Nat}(h:Div3At a b qs rr (i+1) M)(hr:r<64)(hi:i=64*q+r)(hq:q<M)(hle:b*2^i≤rr) :
    Div3At a b (qs.set q (nth qs q+2^r)) (rr-b*2^i) i M:=by
  obtain ⟨t,e⟩:=h.top
  have w:=div3_word h.wq hr hi e
  have wq:=h.wq.nth q
  have pr:=two_pow_pos r
  have l:=h.len
  have v:val (qs.set q (nth qs q+2^r))=val qs+2^i:=by
    rw [val_set _ _ _ (by omega),wpow_two,show nth qs q+2^r-nth qs q=2^r by omega,←Int.pow_add,←hi]
  have r1:=h.r1
  have eq:=h.eq
  refine ⟨by simpa using l,h.wq.set _ ⟨by have:=wq.1;omega,w⟩,⟨2*t+1,by rw [v,e,Int.pow_succ];grind⟩,by rw [v,←eq];grind,by omega,?_⟩
  rw [Int.pow_succ] at r1
  grind
theorem Div3At.no{a b:Int}{qs:List Int}{rr:Int}{i M:Nat}(h:Div3At a b qs rr (i+1) M)(hlt:rr<b*2^i):Div3At a b qs rr i M:=by
  obtain ⟨t,e⟩:=h.top
  exact ⟨h.len,h.wq,⟨2*t,by rw [e,Int.pow_succ,Int.mul_assoc]⟩,h.eq,h.r0,hlt⟩
theorem Div3At.fin{a b:Int}{qs:List Int}{rr:Int}{M:Nat}(h:Div3At a b qs rr 0 M)(hb:0<b):val qs=a/b∧rr=a % b:=by
  have r1:=h.r1
  have r0:=h.r0
  simp only [Int.pow_zero,Int.mul_one] at r1
  rw [←h.eq]
  refine ⟨?_,?_⟩
  · rw [Int.add_comm,Int.add_mul_ediv_right _ _ (by omega),Int.ediv_eq_zero_of_lt r0 r1,Int.zero_add]
  · rw [Int.add_comm,Int.add_mul_emod_self_right,Int.emod_eq_of_lt r0 r1]
theorem half_step(b:Int)(i:Nat):b*2^(i+1)/2^1=b*2^i:=by
  rw [Int.pow_succ,←Int.mul_assoc];simp
theorem nat_set_row{B g o:Nat}{w:World}{v:Value}{xs:List Int}(h:NatAt B w v xs)(hg:g<B)(x:Value):NatAt B (w.setCell ⟨g,o,none⟩ x) v xs :=
  h.isIn.ext (D':=fun g=>B≤g) (by simp) fun k _ hk=>⟨hk,heap_setCell_other _ _ _ _ (by show k≠g;have:B≤k:=hk;omega)⟩
set_option maxRecDepth 100000 in
set_option maxHeartbeats 3200000 in
theorem div3_calls{B B':Nat}{w:World}{v v':Value}{xs ys:List Int}(h:NatAt B w v xs)(h':NatAt B' w v' ys)(hb:0<val ys)(hl:blen (val xs)≤1073741824)(hl':ys.length≤8796093022208) :
    Calls Tryz.prog 75 #[v,v'] w (RNat2 w (ws (val xs/val ys)) (ws (val xs % val ys))):=by
  have hvx:Hid (0≤val xs):=val_nonneg h.words
  have HX0:=Lib.hid h;have HY0:=Lib.hid h'
  have hbs:=blen_small h'.words h'.len
  clear h h'
  go_enter Tryz.func75,Tryz.ntmps75
  go_wp2_with fail
  refine (len3_calls HX0.out).mono ?_
  rintro e w1 ⟨rfl,hb1⟩
  have HB1:=Lib.hid hb1
  clear hb1
  go_wp2_with fail
  refine (len3_calls (HY0.out.below HB1.out)).mono ?_
  rintro e w2 ⟨rfl,hb2⟩
  have HB2:Hid (Below w.heap.size w w2):=below_then HB1.out hb2
  clear hb2 HB1
  have HX1:Hid (NatAt B w2 v xs):=HX0.out.below HB2.out
  have HY1:Hid (NatAt B' w2 v' ys):=HY0.out.below HB2.out
  by_cases hlt:blen (val xs)<blen (val ys)
  · have hq:Hid (val xs/val ys=0∧val xs % val ys=val xs):=divstep_pos (by
      have a:=blen_lt (val xs)
      have b:=blen_ge hb
      have c:(2:Int)^blen (val xs)≤2^(blen (val ys)-1):=two_pow_le (by omega)
      omega) hvx.out
    go_wp2_with fail
    refine (norm_calls HX1.out).mono ?_
    rintro e w3 ⟨v1,rfl,hn,hb3⟩
    have HN:=Lib.hid hn;have HB:=Lib.hid (below_then HB2.out hb3)
    clear hn hb3
    go_wp2
    go_ret2
    rw [hq.out.1,hq.out.2]
    exact ⟨_,v1,rfl,by rw [ws_zero];exact NatAt.nil _ _,HN.out.mono HB2.out.size,HB.out⟩
  · obtain ⟨n,hn⟩:∃ n:Nat,blen (val xs)=n+blen (val ys):=⟨blen (val xs)-blen (val ys),by omega⟩
    have hnI:Hid ((blen (val xs):Int)-(blen (val ys):Int)=(n:Int)):=by show _=_;omega
    have hst:Hid (Div3At (val xs) (val ys) (List.replicate (n/64+1) 0) (val xs) (n+1) (n/64+1)):=div3At_start hvx.out hb hn
    have hn1:n≤1073741824:=by omega
    have htd:((n:Int)).tdiv 64=((n/64:Nat):Int):=by rw [Int.tdiv_eq_ediv_of_nonneg (by omega)];omega
    have hmk:=make_run 23 Tryz.underlying23 (n/64+1) (by omega)
    rw [show ((n/64+1:Nat):Int)=(n:Int)/64+1 from by omega] at hmk
    have hlt':¬ ((n:Int)<0):=by omega
    have ha:Hid (∀ rr:Int,0≤rr→rr≤val xs→(ws rr).length≤17592186044414):=fun rr r0 r1=>by have:=ws_len_blen r0;have:=blen_mono r1;omega
    have hd:Hid (∀ k:Nat,k≤n→(ws (val ys*2^k)).length≤17592186044414):=fun k hk=>by
      have:=ws_len_blen (Int.mul_nonneg (show 0≤val ys by omega) (show (0:Int)≤2^k by have:=two_pow_pos k;omega))
      rw [blen_mul_pow hb] at this;omega
    have hab:Hid (0<val ys):=hb
    clear hlt htd
    go_wp2_with (rw [hnI.out])
    generalize hwm:w2.alloc (Obj.cells (cellsOf (List.replicate (n/64+1) 0)) 45)=wm
    have hrow0:Hid (RowAt wm w2.heap.size (List.replicate (n/64+1) 0)):=by show RowAt _ _ _;rw [←hwm];exact RowAt.made _ _
    have hb0:Hid (Below w2.heap.size w2 wm):=by show Below _ _ _;rw [←hwm];exact below_also _ _
    have hG0:Hid (w2.heap.size+1=wm.heap.size):=by show _=_;rw [←hwm];simp
    have HX2:Hid (NatAt B wm v xs):=HX1.out.below hb0.out
    have HY2:Hid (NatAt B' wm v' ys):=HY1.out.below hb0.out
    clear hwm hmk hb hvx HX0 HY0 HX1 HY1
    refine (norm_calls HX2.out).mono ?_
    rintro e w3 ⟨v1,rfl,hn1',hb3⟩
    have HB3:=Lib.hid hb3;have HN1:=Lib.hid hn1'
    clear hb3 hn1'
    go_wp2_with fail
    refine (shl3_calls (n:Int) (HY2.out.below HB3.out) (by omega) (by omega) (by omega)).mono ?_
    rintro e w4 ⟨v2,rfl,hn2,hb4⟩
    have HB4:Hid (Below wm.heap.size wm w4):=below_then HB3.out hb4
    have HN2:Hid (NatAt wm.heap.size w4 v1 (ws (val xs))):=HN1.out.below hb4
    have HN3:Hid (NatAt wm.heap.size w4 v2 (ws (val ys*2^n))):=by have:=hn2.mono HB3.out.size;rwa [Int.toNat_natCast] at this
    have hrow4:Hid (RowAt w4 w2.heap.size (List.replicate (n/64+1) 0)):=hrow0.out.below HB4.out
    have hB4:Hid (Below w2.heap.size w2 w4):=below_then hb0.out HB4.out
    have hG4:Hid (w2.heap.size<w4.heap.size):=by show _<_;have:=hG0.out;have:=HB4.out.size;omega
    rw [←hG0.out] at HN2 HN3
    clear hb4 hn2 HB3 HN1 hb0 hrow0 HX2 HY2 hbs hl hl'
    have hGw:Hid (w.heap.size≤w2.heap.size):=HB2.out.size
    generalize w2.heap.size=G at *
    go_wp2
    go_loopw [8,9,10] (fun r d i wr=>∃ (k:Nat) (qs:List Int) (rr dd:Int),k≤n+1∧i = .int .i64 ((k:Int)-1)∧NatAt (G+1) wr r (ws rr)∧NatAt (G+1) wr d (ws dd)∧G<wr.heap.size∧RowAt wr G qs∧Below G w2 wr∧Hid (Div3At (val xs) (val ys) qs rr k (n/64+1)∧(0<k→dd=val ys*2^(k-1)))) (fun _ _ i _=>(intOf i+1).toNat)
    case atStart =>
      exact ⟨n+1,_,val xs,val ys*2^n,Nat.le_refl _,by go_num,HN2.out,HN3.out,hG4.out,hrow4.out,hB4.out,hst.out,fun _=>rfl⟩
    case round =>
      obtain ⟨k,qs,rr,dd,hk,rfl,hr,hdv,hG,hrow,hbel,hinv⟩:=hrel
      by_cases h0:0<k
      · obtain ⟨i,rfl⟩:∃ i,k=i+1:=⟨k-1,by omega⟩
        have e0:((i+1:Nat):Int)-1=(i:Int):=by omega
        rw [e0]
        clear e0
        have hD:=hinv.out.1
        have hdd:=hinv.out.2 (by omega)
        rw [Nat.add_sub_cancel] at hdd
        have hdd2:Hid (dd=val ys*2^i):=hdd
        have hd0:0≤dd:=by rw [hdd];exact Int.mul_nonneg (by have:=hab.out;omega) (by have:=two_pow_pos i;omega)
        have hvr:Hid (val (ws rr)=rr):=val_ws hD.r0
        have hvd:Hid (val (ws dd)=dd):=val_ws hd0
        have hra:rr≤val xs:=by
          have:=Int.mul_nonneg (val_nonneg hD.wq) (show 0≤val ys by have:=hab.out;omega)
          have:=hD.eq;omega
        have lr:Hid ((ws rr).length≤17592186044414):=ha.out rr hD.r0 hra
        have ld:Hid ((ws dd).length≤17592186044414):=by show _≤_;rw [hdd];exact hd.out i (by omega)
        have hR:=Lib.hid hr;have hDv:=Lib.hid hdv;have hRow:=Lib.hid hrow;have hBel:=Lib.hid hbel
        clear hr hdv hrow hbel
        go_wp2_with fail
        refine (cmp3_calls hR.out hDv.out).mono ?_
        rintro e w' ⟨rfl,rfl⟩
        rw [hvr.out,hvd.out]
        by_cases hle:dd≤rr
        · have hc:Hid (0≤cmpI rr dd):=by show _≤_;unfold cmpI;split<;>(try split)<;>omega
          have hst2:Hid (Div3At (val xs) (val ys) (qs.set (i/64) (nth qs (i/64)+2^(i % 64))) (rr-dd) i (n/64+1)):=by
            have:=hD.yes (q:=i/64) (r:=i % 64) (by omega) (by omega) (by omega) (by rw [←hdd];exact hle)
            rwa [←hdd] at this
          have hw:Hid (nth qs (i/64)+2^(i % 64)<18446744073709551616):=by
            obtain ⟨t,ht⟩:=hD.top
            exact div3_word hD.wq (by omega) (show i=64*(i/64)+i % 64 by omega) ht
          have hwq:=hD.wq.nth (i/64)
          have hlen:=hD.len
          have hc':=hc.out
          clear hD hdd hd0 hinv
          go_wp2_with fail
          refine (sub3_calls hR.out hDv.out lr.out ld.out (by rw [hvr.out,hvd.out];exact hle)).mono ?_
          rintro e w5 ⟨v5,rfl,hn5,hb5⟩
          rw [hvr.out,hvd.out] at hn5
          have HN5:=Lib.hid hn5;have HB5:=Lib.hid hb5
          clear hn5 hb5
          have htd:((i:Int)).tdiv 64=((i/64:Nat):Int):=by rw [Int.tdiv_eq_ediv_of_nonneg (by omega)];omega
          have htm:((i:Int)).tmod 64=((i % 64:Nat):Int):=by rw [Int.tmod_eq_emod_of_nonneg (by omega)];omega
          have hrow5:=hRow.out.below HB5.out
          have hout:w5.cell? ⟨G,i/64,none⟩=some (.int .u64 (nth qs (i/64))):=hrow5.cell (by omega)
          have hfr:w5.frozen? ⟨G,i/64,none⟩=false:=hrow5.frozen _
          have hp0:=two_pow_pos (i % 64)
          have e1:IntKind.u64.wrap (2^(i % 64))=2^(i % 64):=by rw [wrap_lo];exact Int.emod_eq_of_lt (by omega) (by have:=hw.out;have:=hwq.1;omega)
          have e2:IntKind.u64.wrap (nth qs (i/64)+2^(i % 64))=nth qs (i/64)+2^(i % 64):=by rw [wrap_lo];exact Int.emod_eq_of_lt (by have:=hwq.1;omega) (by have:=hw.out;omega)
          go_wp2_with fail
          have hb6:Hid (Below wr.heap.size wr w5):=HB5
          have hnew:Hid (RowAt (w5.setCell ⟨G,i/64,none⟩ (.int .u64 (nth qs (i/64)+2^(i % 64)))) G (qs.set (i/64) (nth qs (i/64)+2^(i % 64)))):=hrow5.set _ _
          have hbel5:Hid (Below G w2 (w5.setCell ⟨G,i/64,none⟩ (.int .u64 (nth qs (i/64)+2^(i % 64))))):=(hBel.out.trans (HB5.out.mono (by omega))).setCell (Nat.le_refl _) _
          have hR5:Hid (NatAt (G+1) (w5.setCell ⟨G,i/64,none⟩ (.int .u64 (nth qs (i/64)+2^(i % 64)))) v5 (ws (rr-dd))):=nat_set_row (HN5.out.mono (by omega)) (by omega) _
          have hD5:Hid (NatAt (G+1) (w5.setCell ⟨G,i/64,none⟩ (.int .u64 (nth qs (i/64)+2^(i % 64)))) u9 (ws dd)):=nat_set_row (hDv.out.below HB5.out) (by omega) _
          have hG5:G<(w5.setCell ⟨G,i/64,none⟩ (.int .u64 (nth qs (i/64)+2^(i % 64)))).heap.size:=by have:=HB5.out.size;simp;omega
          generalize w5.setCell ⟨G,i/64,none⟩ (.int .u64 (nth qs (i/64)+2^(i % 64)))=w6 at *
          clear hrow5 hout hfr e1 e2 HN5 HB5 hb6 hR hRow hBel
          refine (shr3_calls 1 hD5.out (by omega) (by omega)).mono ?_
          rintro e w7 ⟨v7,rfl,hn7,hb7⟩
          have HR7:Hid (NatAt (G+1) w7 v5 (ws (rr-dd))):=hR5.out.below hb7
          have HD7:Hid (NatAt (G+1) w7 v7 (ws (val (ws dd)/2^1))):=hn7.mono (by omega)
          have HW7:Hid (RowAt w7 G (qs.set (i/64) (nth qs (i/64)+2^(i % 64)))):=hnew.out.below hb7
          have HB7:Hid (Below G w2 w7):=hbel5.out.trans (hb7.mono (by omega))
          have HG7:Hid (G<w7.heap.size):=by show _<_;have:=hb7.size;omega
          clear hn7 hb7 hR5 hD5 hnew hbel5 hG5 htd htm hwq hlen hc' hp0
          rw [hvd.out] at HD7
          go_wp2
          go_roundw
          case rel=>exact ⟨i,_,_,_,by omega,by go_num,HR7.out,HD7.out,HG7.out,HW7.out,HB7.out,hst2.out,fun hi=>by
            obtain ⟨j,rfl⟩:∃ j,i=j+1:=⟨i-1,by omega⟩
            rw [hdd2.out,half_step,Nat.add_sub_cancel]⟩
          case measure=>simp [intOf]
        · have hc:Hid (cmpI rr dd<0):=by show _<_;unfold cmpI;split<;>(try split)<;>omega
          have hst2:Hid (Div3At (val xs) (val ys) qs rr i (n/64+1)):=hD.no (by rw [←hdd];omega)
          have hc':=hc.out
          clear hD hdd hd0 hinv
          go_wp2_with fail
          refine (shr3_calls 1 hDv.out (by omega) (by omega)).mono ?_
          rintro e w7 ⟨v7,rfl,hn7,hb7⟩
          have HR7:Hid (NatAt (G+1) w7 u8 (ws rr)):=hR.out.below hb7
          have HD7:Hid (NatAt (G+1) w7 v7 (ws (val (ws dd)/2^1))):=hn7.mono (by omega)
          have HW7:Hid (RowAt w7 G qs):=hRow.out.below hb7
          have HB7:Hid (Below G w2 w7):=hBel.out.trans (hb7.mono (by omega))
          have HG7:Hid (G<w7.heap.size):=by show _<_;have:=hb7.size;omega
          clear hn7 hb7 hR hDv hRow hBel hG hc'
          rw [hvd.out] at HD7
          go_wp2
          go_roundw
          case rel=>exact ⟨i,_,_,_,by omega,by go_num,HR7.out,HD7.out,HG7.out,HW7.out,HB7.out,hst2.out,fun hi=>by
            obtain ⟨j,rfl⟩:∃ j,i=j+1:=⟨i-1,by omega⟩
            rw [hdd2.out,half_step,Nat.add_sub_cancel]⟩
          case measure=>simp [intOf]
      · obtain rfl:k=0:=by omega
        have hD:=hinv.out.1
        obtain ⟨f1,f2⟩:=hD.fin hab.out
        have hq:Hid (val qs=val xs/val ys∧rr=val xs % val ys):=⟨f1,f2⟩
        have hn8:Hid (NatAt G wr (.slice (some ⟨G,0,none⟩) (n/64+1) (n/64+1)) qs):=hrow.nat (Nat.le_refl _) hD.wq _ hD.len (by rw [hD.len];omega)
        have HR8:=Lib.hid hr;have HB8:=Lib.hid hbel
        clear hD f1 f2 hr hdv hrow hbel hinv
        go_wp2_with fail
        refine (norm_calls hn8.out).mono ?_
        rintro e w9 ⟨v9,rfl,hn9,hb9⟩
        have HN9:=Lib.hid hn9;have HB9:=Lib.hid hb9
        clear hn9 hb9
        go_wp2
        go_ret2
        have hGw:=hGw.out
        have hfin:Below w.heap.size w w9:=(HB2.out.trans (HB8.out.mono (by omega))).trans (HB9.out.mono (by omega))
        refine ⟨v9,u8,rfl,?_,?_,hfin⟩
        · rw [←hq.out.1];exact HN9.out.mono (by omega)
        · rw [←hq.out.2];exact (HR8.out.below HB9.out).mono (by omega)
def leftM(m k:Int):Int:=if 0≤k then m*2^k.toNat else m/2^(-k).toNat
def leftB(m k:Int):Bool:=if 0≤k then false else lostB m (-k).toNat
theorem leftM_rv(m k:Int):∃ f:Rat,0≤f∧f<1∧(m:Rat)*p2 k=(leftM m k:Rat)+f∧(leftB m k=false→f=0)∧(leftB m k=true→0<f):=by
  unfold leftM leftB
  split
  · rename_i h
    exact ⟨0,by grind,by grind,by rw [rcM,←p2_toNat h];grind,fun _=>rfl,fun h=>by cases h⟩
  · rename_i h
    have e:=amt_split m (-k).toNat
    rw [show -(((-k).toNat:Nat):Int)=k by omega] at e
    have p:=two_pow_pos (-k).toNat
    have a0:=Int.emod_nonneg m (show (2:Int)^(-k).toNat≠0 by omega)
    have a1:=Int.emod_lt_of_pos m p
    have pk:=p2_pos k
    have b1:=(mul_p2_lt k).2 (cast_lt.2 a1)
    have e2:((2^(-k).toNat:Int):Rat)*p2 k=1:=by
      rw [←p2_toNat (show 0≤-k by omega),←p2_add,Int.add_left_neg,p2_zero]
    rw [e2] at b1
    have b0:=(mul_p2_le k).2 (cast_le.2 a0)
    have e0:((0:Int):Rat)=0:=rfl
    rw [e0,Rat.zero_mul] at b0
    refine ⟨_,b0,b1,e,fun hl=>?_,fun hl=>?_⟩
    · have:m % 2^(-k).toNat=0:=by
        refine Classical.byContradiction fun hne=>?_
        rw [(lost_iff m (-k).toNat).2 hne] at hl;cases hl
      rw [this,e0,Rat.zero_mul]
    · have:=(lost_iff m (-k).toNat).1 hl
      have c:=(mul_p2_lt k).2 (cast_lt.2 (show 0<m % 2^(-k).toNat by omega))
      rwa [e0,Rat.zero_mul] at c
def overRK(x y:Dx)(p:Int):Int:=p+2+blen y.m-blen x.m
def overRX(x y:Dx)(p:Int)(up:Bool):Dx :=
  if x.m=0 then ⟨false,[],0⟩ else
  cutD (mkD (!(x.neg == y.neg)) (stickyM (leftM x.m (overRK x y p)/y.m) (decide (leftM x.m (overRK x y p) % y.m≠0) || leftB x.m (overRK x y p))) (x.e-y.e-overRK x y p-1)) p up
def overR(a b:Dx)(p:Int)(up:Bool):Dx:=overRX (oneD a) (oneD b) p up
theorem leftM_blen{m k:Int}(hm:0<m)(_:0≤(blen m:Int)+k)(hp:0<(blen m:Int)+k):0<leftM m k∧(blen (leftM m k):Int)=blen m+k:=by
  unfold leftM
  split
  · rename_i hk
    have pk:=two_pow_pos k.toNat
    exact ⟨Int.mul_pos hm pk,by rw [blen_mul_pow hm];omega⟩
  · rename_i hk
    have pk:=two_pow_pos (-k).toNat
    have g1:=blen_ge hm
    have g2:=blen_lt m
    obtain ⟨s,hs⟩:∃ s:Nat,blen m=s+1+(-k).toNat:=⟨blen m-1-(-k).toNat,by omega⟩
    have l1:2^s≤m/2^(-k).toNat:=by
      rw [Int.le_ediv_iff_mul_le pk,←Int.pow_add,show s+(-k).toNat=blen m-1 by omega];exact g1
    have l2:m/2^(-k).toNat<2^(s+1):=by
      refine Int.ediv_lt_of_lt_mul pk ?_
      rw [←Int.pow_add,←hs];exact g2
    have:=blen_eq l1 l2
    have ps:=two_pow_pos s
    exact ⟨by omega,by omega⟩
theorem overR_best{a b:Dx}{p:Int}{q:Rat}(ha:0≤a.m)(hb:0≤b.m)(hb0:b.m≠0)(hp:1≤p)(hq:q*b.rv=a.rv):Dn p q (overR a b p false).rv∧Up p q (overR a b p true).rv:=by
  unfold overR overRX
  have m1:=oneD_p (d:=a)
  have m2:=oneD_p (d:=b)
  have m20:(oneD b).m≠0:=fun h=>hb0 ((mkD_m_zero hb).1 h)
  rw [←rv_one ha,←rv_one hb] at hq
  generalize oneD a=x at *
  generalize oneD b=y at *
  have ypos:0<y.m:=by omega
  by_cases hx0:x.m=0
  · rw [if_pos hx0,if_pos hx0]
    have e0:x.rv=0:=rv_zero hx0
    have y0:y.rv≠0:=by
      rw [sm_amt]
      have:=Rat.mul_pos (cast_ne ypos) (p2_pos y.e)
      cases y.neg<;>simp<;>grind
    have q0:q=0:=by
      rw [e0] at hq
      rcases Rat.mul_eq_zero.1 hq with h | h
      · exact h
      · exact absurd h y0
    rw [q0,show (⟨false,[],0⟩:Dx).rv=0 from rv_zero rfl]
    exact ⟨.self (.zero p),.self (.zero p)⟩
  · rw [if_neg hx0,if_neg hx0]
    have xpos:0<x.m:=by omega
    obtain ⟨k,hk⟩:∃ k:Int,overRK x y p=k:=⟨_,rfl⟩
    have hk':k=p+2+(blen y.m:Int)-(blen x.m:Int):=hk.symm
    rw [hk]
    have by0:=blen_pos ypos
    obtain ⟨hM,hMb⟩:=leftM_blen (m:=x.m) (k:=k) xpos (by omega) (by omega)
    obtain ⟨f,f0,f1,hf,hf2,hf3⟩:=leftM_rv x.m k
    generalize leftM x.m k=M at *
    generalize leftB x.m k=lo at *
    have g1:=blen_ge hM
    have g2:=blen_lt y.m
    have hQ:(2:Int)^(p-1).toNat≤M/y.m:=by
      rw [Int.le_ediv_iff_mul_le ypos]
      have bx:=blen_pos xpos
      have e1:(2:Int)^(blen M-1)=2^(blen M-1-blen y.m)*2^blen y.m:=by rw [←Int.pow_add];congr 1;omega
      have e2:=two_pow_le (j:=(p-1).toNat) (k:=blen M-1-blen y.m) (by omega)
      have e3:(2:Int)^(p-1).toNat*y.m≤2^(blen M-1-blen y.m)*2^blen y.m:=by
        have:=two_pow_pos (p-1).toNat
        exact Int.mul_le_mul e2 (Int.le_of_lt g2) m2 (by have:=two_pow_pos (blen M-1-blen y.m);omega)
      omega
    have d1:=Int.mul_ediv_add_emod M y.m
    have d2:=Int.emod_nonneg M m20
    have d3:=Int.emod_lt_of_pos M ypos
    generalize M/y.m=Q at *
    obtain ⟨q',hq'⟩:∃ q':Rat,q'=(if (!(x.neg == y.neg)) then -1 else 1)*q:=⟨_,rfl⟩
    have hqa:q' * (y.m:Rat)=((M:Rat)+f)*p2 (x.e-y.e-k):=by
      rw [sm_amt,sm_amt x] at hq
      have e1:p2 x.e=p2 (x.e-y.e-k)*(p2 y.e*p2 k):=by rw [←p2_add,←p2_add];congr 1;omega
      have h1:q' * ((y.m:Rat)*p2 y.e)=(x.m:Rat)*p2 x.e:=by
        rw [hq']
        cases hx:x.neg<;>cases hy:y.neg<;>rw [hx,hy] at hq<;>simp at hq ⊢<;>grind
      rw [e1] at h1
      have p0:=p2_pos y.e
      have h2:(q' * (y.m:Rat))*p2 y.e=(((M:Rat)+f)*p2 (x.e-y.e-k))*p2 y.e:=by rw [←hf];grind
      have h3:q' * (y.m:Rat)≤((M:Rat)+f)*p2 (x.e-y.e-k):=by rw [←mul_p2_le y.e];grind
      have h4:((M:Rat)+f)*p2 (x.e-y.e-k)≤q' * (y.m:Rat):=by rw [←mul_p2_le y.e];grind
      exact Rat.le_antisymm h3 h4
    have y0:=cast_ne ypos
    have cmp:∀ c:Int,(c:Rat)*p2 (x.e-y.e-k)*(y.m:Rat)=((y.m*c:Int):Rat)*p2 (x.e-y.e-k):=fun c=>by rw [rcM];grind
    have key:=sticky_best (p:=p) (E:=x.e-y.e-k-1) (Q:=Q) (q:=q') (b:=decide (M % y.m≠0) || lo) hp hQ (fun hb=>by
        rw [Bool.or_eq_false_iff] at hb
        have hr:M % y.m=0:=by simpa using hb.1
        have hf0:=hf2 hb.2
        rw [hr,Int.add_zero] at d1
        rw [hf0,Rat.add_zero] at hqa
        rw [show x.e-y.e-k-1+1=x.e-y.e-k by omega]
        have e:=cmp Q
        rw [d1,←hqa] at e
        have h3:q'≤(Q:Rat)*p2 (x.e-y.e-k):=by rw [←Rat.not_lt,←Rat.mul_lt_mul_right y0];grind
        have h4:(Q:Rat)*p2 (x.e-y.e-k)≤q':=by rw [←Rat.not_lt,←Rat.mul_lt_mul_right y0];grind
        exact Rat.le_antisymm h3 h4) (fun hb=>by
        rw [show x.e-y.e-k-1+1=x.e-y.e-k by omega]
        have l1:((y.m*Q:Int):Rat)<(M:Rat)+f:=by
          rcases Bool.or_eq_true_iff.1 hb with h | h
          · have hr:M % y.m≠0:=by simpa using h
            have:=cast_lt.2 (show y.m*Q<M by omega);grind
          · have h1:=hf3 h
            have:=cast_le.2 (show y.m*Q≤M by omega);grind
        have l2:(M:Rat)+f<((y.m*(Q+1):Int):Rat):=by
          have:=cast_le.2 (show M+1≤y.m*(Q+1) by rw [Int.mul_add,Int.mul_one];omega)
          rw [rcA] at this
          have e1:((1:Int):Rat)=1:=rfl
          rw [e1] at this;grind
        constructor
        · rw [←Rat.mul_lt_mul_right y0,cmp,hqa,mul_p2_lt];exact l1
        · rw [←Rat.mul_lt_mul_right y0,cmp,hqa,mul_p2_lt];exact l2)
    have hS:=(sticky_blen (q:=Q) (b:=decide (M % y.m≠0) || lo) (by have:=two_pow_pos (p-1).toNat;omega)).1
    have best:=cutD_best (d:=mkD (!(x.neg == y.neg)) (stickyM Q (decide (M % y.m≠0) || lo)) (x.e-y.e-k-1)) mkD_p hp
    rw [rv_mkD hS] at best
    cases hs:(!(x.neg == y.neg)) with
    | false =>
      rw [hs] at best hq'
      simp only [Bool.false_eq_true,if_false] at best hq'
      have:q'=q:=by grind
      rw [this] at key
      exact ⟨key.1 _ best.1,key.2 _ best.2⟩
    | true =>
      rw [hs] at best hq'
      simp only [if_true,Rat.intCast_neg,Rat.neg_mul] at best hq'
      have e1:q = -q':=by grind
      have b1:=best.1.neg
      have b2:=best.2.neg
      rw [Rat.neg_neg] at b1 b2
      have c1:=(key.2 _ b1).neg
      have c2:=(key.1 _ b2).neg
      rw [Rat.neg_neg] at c1 c2
      rw [e1]
      exact ⟨c1,c2⟩
theorem zeroD_f:OneF ⟨false,[],0⟩:=⟨false,0,0,Int.le_refl _,(mkD_zero _ _).symm⟩
theorem overR_f{a b:Dx}{p:Int}{up:Bool}:OneF (overR a b p up):=by
  unfold overR overRX;split
  · exact zeroD_f
  · exact cutD_f mkD_p
theorem overD_f{a b:Dx}{p:Int}{up:Bool}:OneF (overD a b p up):=by
  unfold overD overX;split
  · exact zeroD_f
  · exact cutD_f mkD_p
theorem rv_ne0{b:Dx}(hb:0≤b.m)(hb0:b.m≠0):b.rv≠0:=fun h=>hb0 (by
  have:=(zeroB_rv hb).2 h
  simpa [Dx.zeroB] using this)
theorem quo_ex{a b:Dx}(hb:0≤b.m)(hb0:b.m≠0):∃ q:Rat,q*b.rv=a.rv:=⟨a.rv/b.rv,Rat.div_mul_cancel (rv_ne0 hb hb0)⟩
theorem overR_eq{a b:Dx}{p:Int}{up:Bool}(ha:0≤a.m)(hb:0≤b.m)(hb0:b.m≠0)(hp:1≤p):overR a b p up=overD a b p up:=by
  obtain ⟨q,hq⟩:=quo_ex (a:=a) hb hb0
  have h1:=overR_best ha hb hb0 hp hq
  have h2:=over_best ha hb hb0 hp hq
  refine overR_f.ext overD_f ?_
  cases up
  · exact h1.1.uniq h2.1
  · exact h1.2.uniq h2.2
end Go.Proofs.YtbboniaeoegeeaaGreatDoor
