/-
Package raw: numbers, first part.
Package raw: numbers, second part.
Package raw: intervals.
Dyadic numbers: sizes of what is reckoned. Plain.
Package raw: intervals, reckoned with.
Symbolic execution, seventeenth part: words told by patterns; words that forget which memory is new; what can be known of arguments.
Package ival: the words of its functions that reckon with nothing but their arguments.
Package ival: the words of all its functions.
Dyadic numbers as rational numbers: what is reckoned, and order. Plain.
Package ulpref04.
Dyadic numbers as rational numbers: tops, narrowness, one form. Plain.
Package ulpref06.
ulpref04.Copy, by hand: a copy of a number's words.
Memory that is spoiled: words of a call's own later memory are written; everything else stays.
The references' naturals (ulpref03): short.
The next numbers of so many bits, down and up. Plain.
Quotients and roots: the next numbers of so many bits. Plain.
Roots; products and quotients of what lies between ends. Plain.
Numbers told as limits of sums of rational numbers: finite sums, limits, products of sums. Plain.
Products of sums that fall off by halves. Plain.
Sine and cosine as limits: the sums of divided powers, sums of angles. Plain.
Sine and cosine as limits, second part: sums of angles, the circle, the mirror; enclosures of products. Plain.
Sine and cosine as alternating sums of the powers of the square. Plain.
Numbers in so many bits with a bound of their error. Plain.
Numbers in so many bits with their error: packages series and ulpref09.
-/
import Derived.Test.YtenkjloaghmjfaaGreatDoorMg1
import Derived.Deep.QuietTactic
import Derived.BigQuiet
import Derived.StillTailTactics
namespace Go.Proofs.YtenkjloaghmjfaaGreatDoor
open Go.RowKit
theorem zX{a b:Int}:eqI a b=true↔a=b:=by simp [eqI]
theorem qR{a b:Int}:eqI a b=false↔a≠b:=by simp [eqI]
theorem Qi{a b:Int}:neI a b=true↔a≠b:=by simp [neI]
theorem qQ{a b:Int}:neI a b=false↔a=b:=by simp [neI]
theorem qW{a b:Int}:ltI a b=true↔a<b:=by simp [ltI]
theorem qJ{a b:Int}:ltI a b=false↔¬ a<b:=by simp [ltI]
theorem zS{a b:Int}:leI a b=true↔a≤b:=by simp [leI]
theorem Qn{a b:Int}:leI a b=false↔¬ a≤b:=by simp [leI]
theorem WfW.val0{xs:List Int}(h:WfW xs):0≤val xs:=qM h.1
theorem Dx.Wf.m0{d:Dx}(h:d.Wf):0≤d.m:=qM h.1
theorem len_zero{n:Int}(h:0≤n):eqI ((ws n).length:Nat) 0=decide (n=0):=by
  rw [Bool.eq_iff_iff,zX,decide_eq_true_eq,←Y6 h,←List.length_eq_zero_iff];omega
theorem YV{n:Int}(h:0≤n):ltI 0 ((ws n).length:Nat)=decide (n≠0):=by
  rw [Bool.eq_iff_iff,qW,decide_eq_true_eq,ne_eq,←Y6 h,←List.length_eq_zero_iff];omega
def rForm:qU:=qF [.b,.w,.i .i64] fun (neg:Bool) (xs:List Int) (e:Int)=>(some (-4611686018427387904≤e∧e≤4611686018427387904),dT (mkD neg (val xs) e))
theorem rForm_vc(neg:Bool)(xs:List Int)(e:Int)(Q:Tv→Prop):qH ⟨tys,sLimbs⟩ (fun _=>none) 0 Tryz.f74 [.one (.bool neg),.one (.words false xs),.one (.int .i64 e)] Q=(br (eqI (↑(List.length (ws (val xs))):Int) 0) (Q (Tv.sv (Sv.agg [At.bool false,At.words true [],At.int IntKind.i64 0]))) (((0:Int)≤(↑(tz (val (ws (val xs)))):Int)∧(↑(tz (val (ws (val xs)))):Int)≤9007199254740992)∧inR (e+(↑(tz (val (ws (val xs)))):Int))∧Q (Tv.sv (Sv.agg [At.bool neg,At.words true (ws (val (ws (val xs))/2^Int.toNat (↑(tz (val (ws (val xs)))):Int))),At.int IntKind.i64 (e+(↑(tz (val (ws (val xs)))):Int))])))):=by kernel_rfl
theorem rForm_ok:SpecOk Tryz.prog 74 rForm :=
  qG (qO Qh Zq) mixed Tryz.func74 rfl (by decide) (by decide) fun neg _ xs hxs (e:Int) _ hp=>⟨fun _=>none,0,by
    have h0:-4611686018427387904≤e:=hp.1
    have h1:e≤4611686018427387904:=hp.2
    have hv:=WfW.val0 hxs
    have ht:=tz_small hxs.1 hxs.2
    refine (rForm_vc neg xs e _).mpr (qB (fun h=>?_) (fun h=>?_))
    · rw [len_zero hv,decide_eq_true_eq] at h
      show _=dT (mkD neg (val xs) e)
      rw [h,Zd]
      rfl
    · rw [len_zero hv,decide_eq_false_iff_not] at h
      rw [qN hv]
      refine ⟨⟨by omega,by omega⟩,⟨by omega,by omega⟩,?_⟩
      show _=dT (mkD neg (val xs) e)
      rw [mkD,if_neg h,Int.toNat_natCast]
      rfl⟩
def rZero:qU:=qF [.d] fun (d:Dx)=>(none,bT d.zeroB)
theorem rZero_vc(d:Dx)(Q:Tv→Prop):qH ⟨tys,sLimbs⟩ (fun _=>none) 0 Tryz.f105 [.agg (dyL false d)] Q=(Q (Tv.sv (Sv.one (At.bool (eqI (↑(List.length (ws (val d.xs))):Int) 0))))):=by kernel_rfl
theorem rZero_ok:SpecOk Tryz.prog 105 rZero :=
  qG (qO Qh Zq) mixed Tryz.func105 rfl (by decide) (by decide) fun (d:Dx) hd _=>⟨fun _=>none,0,by
    refine (rZero_vc d _).mpr ?_
    show _=bT d.zeroB
    rw [len_zero (WfW.val0 hd)]
    rfl⟩
def rFits:qU:=qF [.d] fun (d:Dx)=>(none,bT d.fitsB)
theorem rFits_vc(d:Dx)(Q:Tv→Prop):qH ⟨tys,sLimbs⟩ (fun _=>none) 0 Tryz.f103 [.agg (dyL false d)] Q=(br (leI (↑(List.length (ws (val d.xs))):Int) 1024) (br (leI (-32768) d.e) (Q (Tv.sv (Sv.one (At.bool (leI d.e 32768))))) (Q (Tv.sv (Sv.one (At.bool false))))) (Q (Tv.sv (Sv.one (At.bool false))))):=by kernel_rfl
theorem rFits_ok:SpecOk Tryz.prog 103 rFits :=
  qG (qO Qh Zq) mixed Tryz.func103 rfl (by decide) (by decide) fun (d:Dx) hd _=>⟨fun _=>none,0,by
    refine (rFits_vc d _).mpr (qB (fun h=>qB (fun h'=>?_) fun h'=>?_) fun h=>?_)
    · show _=bT d.fitsB
      have e1:Yr d.m=false:=by rw [zS] at h;unfold Yr Dx.m;simp;omega
      rw [zS] at h'
      unfold Dx.fitsB;rw [e1];simp only [leI,h',decide_true,Bool.not_false,Bool.true_and]
    · show _=bT d.fitsB
      rw [Qn] at h'
      unfold Dx.fitsB;simp only [h',decide_false,Bool.and_false,Bool.false_and]
    · show _=bT d.fitsB
      have e1:Yr d.m=true:=by rw [Qn] at h;unfold Yr Dx.m;simp;omega
      unfold Dx.fitsB;rw [e1];rfl⟩
theorem blen_wf{xs:List Int}(h:WfW xs):blen (val xs)≤1125899906842560:=XC h.1 h.2
theorem Dx.Wf.blen{d:Dx}(h:d.Wf):blen d.m≤1125899906842560:=XC h.1 h.2
def rTop:qU:=qF [.d] fun (d:Dx)=>(some (-2305843009213693952≤d.e∧d.e≤2305843009213693952),iT (d.e+blen d.m-1))
theorem rTop_vc(d:Dx)(Q:Tv→Prop):qH ⟨tys,sLimbs⟩ (fun _=>none) 0 Tryz.f106 [.agg (dyL false d)] Q=(inR (d.e+(↑(blen (val d.xs)):Int))∧inR (d.e+(↑(blen (val d.xs)):Int)-1)∧true=true∧Q (Tv.sv (Sv.one (At.int IntKind.i64 (d.e+(↑(blen (val d.xs)):Int)-1))))):=by kernel_rfl
theorem rTop_ok:SpecOk Tryz.prog 106 rTop :=
  qG (qO Qh Zq) mixed Tryz.func106 rfl (by decide) (by decide) fun (d:Dx) hd hp=>⟨fun _=>none,0,by
    have h0:-2305843009213693952≤Dx.e d:=hp.1
    have h1:Dx.e d≤2305843009213693952:=hp.2
    have hb:=Dx.Wf.blen hd
    unfold Dx.m at hb
    refine (rTop_vc d _).mpr ⟨⟨by omega,by omega⟩,⟨by omega,by omega⟩,rfl,rfl⟩⟩
def rAmounts:qU:=qF [.d,.d] fun (d:Dx) (d':Dx)=>(some (d.Sm 274877906944∧d'.Sm 274877906944),
  .tup [.one (.words true (ws (d.m*2^(d.e-min d.e d'.e).toNat))),.one (.words true (ws (d'.m*2^(d'.e-min d.e d'.e).toNat))),.one (.int .i64 (min d.e d'.e))])
theorem minI_eq(a b:Int):Yw a b=min a b:=by unfold Yw;omega
theorem maxI_eq(a b:Int):maxI a b=max a b:=by unfold maxI;omega
theorem QR{n:Int}{k:Nat}(h0:0≤n)(h:blen n≤64*k):(ws n).length≤k:=by have:=Yq h0;omega
theorem rAmounts_vc(d d':Dx)(Q:Tv→Prop):qH ⟨tys,sLimbs⟩ (fun _=>none) 0 Tryz.f153 [.agg (dyL false d),.agg (dyL false d')] Q=(inR (d.e-Yw d.e d'.e)∧((0:Int)≤d.e-Yw d.e d'.e∧d.e-Yw d.e d'.e≤1099511627776∧List.length (ws (val d.xs))≤8796093022208)∧inR (d'.e-Yw d.e d'.e)∧((0:Int)≤d'.e-Yw d.e d'.e∧d'.e-Yw d.e d'.e≤1099511627776∧List.length (ws (val d'.xs))≤8796093022208)∧true=true∧Q (Tv.tup [Sv.one (At.words true (ws (val d.xs*2^Int.toNat (d.e-Yw d.e d'.e)))),Sv.one (At.words true (ws (val d'.xs*2^Int.toNat (d'.e-Yw d.e d'.e)))),Sv.one (At.int IntKind.i64 (Yw d.e d'.e))])):=by kernel_rfl
theorem rAmounts_ok:SpecOk Tryz.prog 153 rAmounts :=
  qG (qO Qh Zq) mixed Tryz.func153 rfl (by decide) (by decide) fun (d:Dx) hd (d':Dx) hd' hp=>⟨fun _=>none,0,by
    obtain ⟨⟨s1,s2,s3⟩,s4,s5,s6⟩:Dx.Sm 274877906944 d∧Dx.Sm 274877906944 d':=hp
    have l1:=QR (k:=8796093022208) (Dx.Wf.m0 hd) (by omega)
    have l2:=QR (k:=8796093022208) (Dx.Wf.m0 hd') (by omega)
    refine (rAmounts_vc d d' _).mpr ?_
    rw [minI_eq]
    exact ⟨⟨by omega,by omega⟩,⟨by omega,by omega,l1⟩,⟨by omega,by omega⟩,⟨by omega,by omega,l2⟩,rfl,rfl⟩⟩
def sRaw1:List (FuncId×qU):=[(74,rForm),(105,rZero),(103,rFits),(106,rTop),(153,rAmounts)] ++ sLimbs
theorem sRaw1_ok:SpecsOk Tryz.prog sRaw1:=⟨rForm_ok,rZero_ok,rFits_ok,rTop_ok,rAmounts_ok,Zq⟩
def rOne:qU:=qF [.d] fun (d:Dx)=>(some (-4611686018427387904≤d.e∧d.e≤4611686018427387904),dT (qC d))
theorem rOne_vc(d:Dx)(Q:Tv→Prop):qH ⟨tys,sRaw1⟩ (fun _=>none) 0 Tryz.f104 [.agg (dyL false d)] Q=(((-4611686018427387904:Int)≤d.e∧d.e≤4611686018427387904)∧Q (Tv.sv (Sv.agg [At.bool (mkD d.neg (val d.xs) d.e).neg,At.words true (mkD d.neg (val d.xs) d.e).xs,At.int IntKind.i64 (mkD d.neg (val d.xs) d.e).e]))):=by kernel_rfl
theorem rOne_ok:SpecOk Tryz.prog 104 rOne :=
  qG (qO Qh sRaw1_ok) mixed Tryz.func104 rfl (by decide) (by decide) fun (d:Dx) hd hp=>⟨fun _=>none,0,(rOne_vc d _).mpr ⟨hp,rfl⟩⟩
def rNeg:qU:=qF [.d] fun (d:Dx)=>(some (-4611686018427387904≤d.e∧d.e≤4611686018427387904),dT (ZO d))
theorem rNeg_vc(d:Dx)(Q:Tv→Prop):qH ⟨tys,sRaw1⟩ (fun _=>none) 0 Tryz.f151 [.agg (dyL false d)] Q=(((-4611686018427387904:Int)≤d.e∧d.e≤4611686018427387904)∧Q (Tv.sv (Sv.agg [At.bool (mkD (!d.neg) (val d.xs) d.e).neg,At.words true (mkD (!d.neg) (val d.xs) d.e).xs,At.int IntKind.i64 (mkD (!d.neg) (val d.xs) d.e).e]))):=by kernel_rfl
theorem rNeg_ok:SpecOk Tryz.prog 151 rNeg :=
  qG (qO Qh sRaw1_ok) mixed Tryz.func151 rfl (by decide) (by decide) fun (d:Dx) hd hp=>⟨fun _=>none,0,(rNeg_vc d _).mpr ⟨hp,rfl⟩⟩
def absD(d:Dx):Dx:=mkD false d.m d.e
def rAbs:qU:=qF [.d] fun (d:Dx)=>(some (-4611686018427387904≤d.e∧d.e≤4611686018427387904),dT (absD d))
theorem rAbs_vc(d:Dx)(Q:Tv→Prop):qH ⟨tys,sRaw1⟩ (fun _=>none) 0 Tryz.f146 [.agg (dyL false d)] Q=(((-4611686018427387904:Int)≤d.e∧d.e≤4611686018427387904)∧Q (Tv.sv (Sv.agg [At.bool (mkD false (val d.xs) d.e).neg,At.words true (mkD false (val d.xs) d.e).xs,At.int IntKind.i64 (mkD false (val d.xs) d.e).e]))):=by kernel_rfl
theorem rAbs_ok:SpecOk Tryz.prog 146 rAbs :=
  qG (qO Qh sRaw1_ok) mixed Tryz.func146 rfl (by decide) (by decide) fun (d:Dx) hd hp=>⟨fun _=>none,0,(rAbs_vc d _).mpr ⟨hp,rfl⟩⟩
def zC(d:Dx)(n:Int):Dx:=mkD d.neg d.m (d.e+n)
def rShift:qU:=qF [.d,.i .i64] fun (d:Dx) (n:Int)=>(some (-2305843009213693952≤d.e∧d.e≤2305843009213693952∧-2305843009213693952≤n∧n≤2305843009213693952),dT (zC d n))
theorem rShift_vc(d:Dx)(n:Int)(Q:Tv→Prop):qH ⟨tys,sRaw1⟩ (fun _=>none) 0 Tryz.f173 [.agg (dyL false d),.one (.int .i64 n)] Q=(inR (d.e+n)∧((-4611686018427387904:Int)≤d.e+n∧d.e+n≤4611686018427387904)∧Q (Tv.sv (Sv.agg [At.bool (mkD d.neg (val d.xs) (d.e+n)).neg,At.words true (mkD d.neg (val d.xs) (d.e+n)).xs,At.int IntKind.i64 (mkD d.neg (val d.xs) (d.e+n)).e]))):=by kernel_rfl
theorem rShift_ok:SpecOk Tryz.prog 173 rShift :=
  qG (qO Qh sRaw1_ok) mixed Tryz.func173 rfl (by decide) (by decide) fun (d:Dx) hd (n:Int) _ hp=>⟨fun _=>none,0,by
    obtain ⟨h1,h2,h3,h4⟩:(-2305843009213693952≤Dx.e d∧Dx.e d≤2305843009213693952∧-2305843009213693952≤(n:Int)∧(n:Int)≤2305843009213693952):=hp
    have e0:-4611686018427387904≤Dx.e d+n:=by omega
    have e1:Dx.e d+n≤4611686018427387904:=by omega
    exact (rShift_vc d n _).mpr ⟨⟨by omega,by omega⟩,⟨e0,e1⟩,rfl⟩⟩
def rSign:qU:=qF [.d] fun (d:Dx)=>(none,iT d.sgn)
theorem rSign_vc(d:Dx)(Q:Tv→Prop):qH ⟨tys,sRaw1⟩ (fun _=>none) 0 Tryz.f152 [.agg (dyL false d)] Q=(br (Dx.zeroB d) (Q (Tv.sv (Sv.one (At.int IntKind.i64 0)))) (br d.neg (Q (Tv.sv (Sv.one (At.int IntKind.i64 (-1))))) (Q (Tv.sv (Sv.one (At.int IntKind.i64 1)))))):=by kernel_rfl
def rMul:qU:=qF [.d,.d] fun (d:Dx) (d':Dx)=>(some (d.Sm 274877906944∧d'.Sm 274877906944),dT (zQ d d'))
theorem rSign_ok:SpecOk Tryz.prog 152 rSign :=
  qG (qO Qh sRaw1_ok) mixed Tryz.func152 rfl (by decide) (by decide) fun (d:Dx) hd _=>⟨fun _=>none,0,by
    refine (rSign_vc d _).mpr (qB (fun h=>?_) (fun h=>qB (fun h'=>?_) fun h'=>?_))
    · show _=iT d.sgn
      rw [Dx.sgn,if_pos (by simpa [Dx.zeroB] using h)]
    · show _=iT d.sgn
      rw [Dx.sgn,if_neg (by simpa [Dx.zeroB] using h),if_pos h']
    · show _=iT d.sgn
      rw [Dx.sgn,if_neg (by simpa [Dx.zeroB] using h),if_neg (by simp [h'])]⟩
theorem rMul_vc(d d':Dx)(Q:Tv→Prop):qH ⟨tys,sRaw1⟩ (fun _=>none) 0 Tryz.f179 [.agg (dyL false d),.agg (dyL false d')] Q=(List.length (ws (val d.xs))+List.length (ws (val d'.xs))≤17592186044415∧inR (d.e+d'.e)∧((-4611686018427387904:Int)≤d.e+d'.e∧d.e+d'.e≤4611686018427387904)∧true=true∧Q (Tv.sv (Sv.agg [At.bool (mkD (!d.neg == d'.neg) (val (ws (val d.xs*val d'.xs))) (d.e+d'.e)).neg,At.words true (mkD (!d.neg == d'.neg) (val (ws (val d.xs*val d'.xs))) (d.e+d'.e)).xs,At.int IntKind.i64 (mkD (!d.neg == d'.neg) (val (ws (val d.xs*val d'.xs))) (d.e+d'.e)).e]))):=by kernel_rfl
theorem rMul_ok:SpecOk Tryz.prog 179 rMul :=
  qG (qO Qh sRaw1_ok) mixed Tryz.func179 rfl (by decide) (by decide) fun (d:Dx) hd (d':Dx) hd' hp=>⟨fun _=>none,0,by
    obtain ⟨⟨s1,s2,s3⟩,s4,s5,s6⟩:Dx.Sm 274877906944 d∧Dx.Sm 274877906944 d':=hp
    have l1:=QR (k:=8796093022207) (Dx.Wf.m0 hd) (by omega)
    have l2:=QR (k:=8796093022207) (Dx.Wf.m0 hd') (by omega)
    unfold Dx.m at l1 l2
    have hv:0≤val d.xs*val d'.xs:=Int.mul_nonneg (WfW.val0 hd) (WfW.val0 hd')
    refine (rMul_vc d d' _).mpr ?_
    rw [qN hv]
    exact ⟨by omega,⟨by omega,by omega⟩,⟨by omega,by omega⟩,rfl,rfl⟩⟩
def rSticky:qU:=qF [.b,.w,.b,.i .i64] fun (neg:Bool) (xs:List Int) (more:Bool) (e:Int)=>(some ((ws (val xs)).length≤8796093022207∧-2305843009213693952≤e∧e≤2305843009213693952),dT (mkD neg (Ze (val xs) more) (e-1)))
theorem rSticky_vc(neg more:Bool)(xs:List Int)(e:Int)(Q:Tv→Prop):qH ⟨tys,sRaw1⟩ (fun _=>none) 0 Tryz.f123 [.one (.bool neg),.one (.words false xs),.one (.bool more),.one (.int .i64 e)] Q=(((0:Int)≤1∧(1:Int)≤1099511627776∧List.length (ws (val xs))≤8796093022208)∧br more (zR 1∧(List.length (ws (val xs*2^Int.toNat 1))≤17592186044414∧List.length (ws 1)≤17592186044414)∧inR (e-1)∧((-4611686018427387904:Int)≤e-1∧e-1≤4611686018427387904)∧Q (Tv.sv (Sv.agg [At.bool (mkD neg (val (ws (val (ws (val xs*2^Int.toNat 1))+val (ws 1)))) (e-1)).neg,At.words true (mkD neg (val (ws (val (ws (val xs*2^Int.toNat 1))+val (ws 1)))) (e-1)).xs,At.int IntKind.i64 (mkD neg (val (ws (val (ws (val xs*2^Int.toNat 1))+val (ws 1)))) (e-1)).e]))) (inR (e-1)∧((-4611686018427387904:Int)≤e-1∧e-1≤4611686018427387904)∧Q (Tv.sv (Sv.agg [At.bool (mkD neg (val (ws (val xs*2^Int.toNat 1))) (e-1)).neg,At.words true (mkD neg (val (ws (val xs*2^Int.toNat 1))) (e-1)).xs,At.int IntKind.i64 (mkD neg (val (ws (val xs*2^Int.toNat 1))) (e-1)).e])))):=by kernel_rfl
theorem Yn:zR 1:=⟨by omega,by omega⟩
theorem ws_one:ws 1 = [1]:=by rw [Xp (by omega),Zp (by omega)];rfl
theorem Zi:val (ws 1)=1:=qN (by omega)
theorem ws_len_double{n:Int}(h:0≤n):(ws (n*2)).length≤(ws n).length+1:=by
  have:=Zh h
  refine Qk ?_
  rw [Qe]
  have:=Zc (ws n).length
  omega
theorem rSticky_ok:SpecOk Tryz.prog 123 rSticky :=
  qG (qO Qh sRaw1_ok) mixed Tryz.func123 rfl (by decide) (by decide) fun neg _ xs hxs more _ (e:Int) _ hp=>⟨fun _=>none,0,by
    obtain ⟨h1,h2,h3⟩:(ws (val xs)).length≤8796093022207∧-2305843009213693952≤e∧e≤2305843009213693952:=hp
    have v0:=WfW.val0 hxs
    have l2:=ws_len_double v0
    refine (rSticky_vc neg more xs e _).mpr ?_
    rw [show (2:Int)^Int.toNat 1=2 from rfl,qN (n:=val xs*2) (by omega),Zi,qN (n:=val xs*2+1) (by omega)]
    refine ⟨⟨by omega,by omega,by omega⟩,qB (fun h=>⟨Yn,⟨by omega,by simp [ws_one]⟩,⟨by omega,by omega⟩,⟨by omega,by omega⟩,?_⟩) (fun h=>⟨⟨by omega,by omega⟩,⟨by omega,by omega⟩,?_⟩)⟩
    · show _=dT (mkD neg (Ze (val xs) more) (e-1))
      rw [h];rfl
    · show _=dT (mkD neg (Ze (val xs) more) (e-1))
      rw [h,show Ze (val xs) false=val xs*2 from by simp [Ze]];rfl⟩
def sRaw2:List (FuncId×qU):=[(104,rOne),(151,rNeg),(146,rAbs),(173,rShift),(152,rSign),(179,rMul),(123,rSticky)] ++ sRaw1
theorem sRaw2_ok:SpecsOk Tryz.prog sRaw2:=⟨rOne_ok,rNeg_ok,rAbs_ok,rShift_ok,rSign_ok,rMul_ok,rSticky_ok,sRaw1_ok⟩
def rAdd:qU:=qF [.d,.d] fun (a:Dx) (b:Dx)=>(some (a.Sm 68719476736∧b.Sm 68719476736),dT (Qx a b))
theorem rAdd_vc(a b:Dx)(Q:Tv→Prop):qH ⟨tys,sRaw2⟩ (fun _=>none) 0 Tryz.f175 [.agg (dyL false a),.agg (dyL false b)] Q=(((-4611686018427387904:Int)≤a.e∧a.e≤4611686018427387904)∧((-4611686018427387904:Int)≤b.e∧b.e≤4611686018427387904)∧true=true∧br (Dx.zeroB (qC a)) (Q (Tv.sv (Sv.agg (dyL true (qC b))))) (br (Dx.zeroB (qC b)) (Q (Tv.sv (Sv.agg (dyL true (qC a))))) ((Dx.Sm 274877906944 (qC a)∧Dx.Sm 274877906944 (qC b))∧br ((qC a).neg == (qC b).neg) ((List.length (ws (Dx.m (qC a)*2^Int.toNat ((qC a).e-min (qC a).e (qC b).e)))≤17592186044414∧List.length (ws (Dx.m (qC b)*2^Int.toNat ((qC b).e-min (qC a).e (qC b).e)))≤17592186044414)∧((-4611686018427387904:Int)≤min (qC a).e (qC b).e∧min (qC a).e (qC b).e≤4611686018427387904)∧true=true∧Q (Tv.sv (Sv.agg (dyL true (mkD (qC a).neg (val (ws (val (ws (Dx.m (qC a)*2^Int.toNat ((qC a).e-min (qC a).e (qC b).e)))+val (ws (Dx.m (qC b)*2^Int.toNat ((qC b).e-min (qC a).e (qC b).e)))))) (min (qC a).e (qC b).e)))))) (br (leI 0 (Xj (val (ws (Dx.m (qC a)*2^Int.toNat ((qC a).e-min (qC a).e (qC b).e)))) (val (ws (Dx.m (qC b)*2^Int.toNat ((qC b).e-min (qC a).e (qC b).e)))))) (val (ws (Dx.m (qC b)*2^Int.toNat ((qC b).e-min (qC a).e (qC b).e)))≤val (ws (Dx.m (qC a)*2^Int.toNat ((qC a).e-min (qC a).e (qC b).e)))∧((-4611686018427387904:Int)≤min (qC a).e (qC b).e∧min (qC a).e (qC b).e≤4611686018427387904)∧true=true∧Q (Tv.sv (Sv.agg (dyL true (mkD (qC a).neg (val (ws (val (ws (Dx.m (qC a)*2^Int.toNat ((qC a).e-min (qC a).e (qC b).e)))-val (ws (Dx.m (qC b)*2^Int.toNat ((qC b).e-min (qC a).e (qC b).e)))))) (min (qC a).e (qC b).e)))))) (val (ws (Dx.m (qC a)*2^Int.toNat ((qC a).e-min (qC a).e (qC b).e)))≤val (ws (Dx.m (qC b)*2^Int.toNat ((qC b).e-min (qC a).e (qC b).e)))∧((-4611686018427387904:Int)≤min (qC a).e (qC b).e∧min (qC a).e (qC b).e≤4611686018427387904)∧true=true∧Q (Tv.sv (Sv.agg (dyL true (mkD (qC b).neg (val (ws (val (ws (Dx.m (qC b)*2^Int.toNat ((qC b).e-min (qC a).e (qC b).e)))-val (ws (Dx.m (qC a)*2^Int.toNat ((qC a).e-min (qC a).e (qC b).e)))))) (min (qC a).e (qC b).e)))))))))):=by kernel_rfl
theorem QC{d:Dx}:d.zeroB=true↔d.m=0:=by simp [Dx.zeroB]
theorem QV{d:Dx}:d.zeroB=false↔d.m≠0:=by simp [Dx.zeroB]
theorem one_m0{d:Dx}(h:0≤d.m):0≤(qC d).m:=by
  unfold qC;rw [mkD_m h];exact Int.ediv_nonneg h (by have:=two_pow_pos (tz d.m);omega)
theorem ZM{d:Dx}{N:Nat}(hd:0≤d.m)(h:d.Sm N):(qC d).Sm (N+N):=mkD_sm hd h.1 h.2.1 h.2.2
theorem cmpI_ge{a b:Int}:leI 0 (Xj a b)=true↔b≤a:=by
  rw [zS];unfold Xj;split
  · omega
  · split<;>omega
theorem rAdd_ok:SpecOk Tryz.prog 175 rAdd :=
  qG (qO Qh sRaw2_ok) mixed Tryz.func175 rfl (by decide) (by decide) fun (a:Dx) ha (b:Dx) hb hp=>⟨fun _=>none,0,by
    obtain ⟨s1,s2⟩:Dx.Sm 68719476736 a∧Dx.Sm 68719476736 b:=hp
    have m1:=one_m0 (Dx.Wf.m0 ha)
    have m2:=one_m0 (Dx.Wf.m0 hb)
    have z1:=ZM (Dx.Wf.m0 ha) s1
    have z2:=ZM (Dx.Wf.m0 hb) s2
    have b1:=s1.2
    have b2:=s2.2
    refine (rAdd_vc a b _).mpr ⟨⟨by omega,by omega⟩,⟨by omega,by omega⟩,rfl,qB (fun h=>?_) (fun h=>qB (fun h'=>?_) fun h'=>?_)⟩
    · show _=dT (plusX (qC a) (qC b))
      rw [plusX,if_pos (QC.1 h)]
    · show _=dT (plusX (qC a) (qC b))
      rw [plusX,if_neg (QV.1 h),if_pos (QC.1 h')]
    · rw [QV] at h h'
      obtain ⟨X,Y,mn,hX,hY,hmn,pX,pY,lX,lY,mn0,mn1,hsame,hge,hlt⟩:=plus_parts m1 m2 h h' z1 z2
      rw [hX,hY,hmn,qN (n:=X) (by omega),qN (n:=Y) (by omega)]
      refine ⟨⟨z1.mono (by omega),z2.mono (by omega)⟩,qB (fun e=>?_) fun e=>qB (fun e'=>?_) fun e'=>?_⟩
      · rw [qN (by omega)]
        refine ⟨⟨lX,lY⟩,⟨mn0,mn1⟩,rfl,?_⟩
        show _=dT (plusX (qC a) (qC b))
        rw [hsame (by simpa using e)]
      · rw [cmpI_ge] at e'
        rw [qN (n:=X-Y) (by omega)]
        refine ⟨e',⟨mn0,mn1⟩,rfl,?_⟩
        show _=dT (plusX (qC a) (qC b))
        rw [hge (by simpa using e) e']
      · have e':¬ Y≤X:=fun h=>by rw [cmpI_ge.2 h] at e';simp at e'
        rw [qN (n:=Y-X) (by omega)]
        refine ⟨by omega,⟨mn0,mn1⟩,rfl,?_⟩
        show _=dT (plusX (qC a) (qC b))
        rw [hlt (by simpa using e) (by omega)]⟩
def rCut:qU:=qF [.d,.i .i64,.b] fun (d:Dx) (p:Int) (up:Bool)=>(some (d.Sm 34359738368∧0≤p∧p≤1099511627776),dT (cutD d p up))
theorem rCut_vc(d:Dx)(p:Int)(up:Bool)(Q:Tv→Prop):qH ⟨tys,sRaw2⟩ (fun _=>none) 0 Tryz.f80 [.agg (dyL false d),.one (.int .i64 p),.one (.bool up)] Q=(((-4611686018427387904:Int)≤d.e∧d.e≤4611686018427387904)∧inR ((↑(blen (val (qC d).xs)):Int)-p)∧br (leI ((↑(blen (val (qC d).xs)):Int)-p) 0) (Q (Tv.sv (Sv.agg (dyL true (qC d))))) (((0:Int)≤(↑(blen (val (qC d).xs)):Int)-p∧(↑(blen (val (qC d).xs)):Int)-p≤9007199254740992)∧br (!up == (qC d).neg) (zR 1∧(List.length (ws (val (qC d).xs/2^Int.toNat ((↑(blen (val (qC d).xs)):Int)-p)))≤17592186044414∧List.length (ws 1)≤17592186044414)∧inR ((qC d).e+((↑(blen (val (qC d).xs)):Int)-p))∧((-4611686018427387904:Int)≤(qC d).e+((↑(blen (val (qC d).xs)):Int)-p)∧(qC d).e+((↑(blen (val (qC d).xs)):Int)-p)≤4611686018427387904)∧Q (Tv.sv (Sv.agg (dyL true (mkD (qC d).neg (val (ws (val (ws (val (qC d).xs/2^Int.toNat ((↑(blen (val (qC d).xs)):Int)-p)))+val (ws 1)))) ((qC d).e+((↑(blen (val (qC d).xs)):Int)-p))))))) (inR ((qC d).e+((↑(blen (val (qC d).xs)):Int)-p))∧((-4611686018427387904:Int)≤(qC d).e+((↑(blen (val (qC d).xs)):Int)-p)∧(qC d).e+((↑(blen (val (qC d).xs)):Int)-p)≤4611686018427387904)∧Q (Tv.sv (Sv.agg (dyL true (mkD (qC d).neg (val (ws (val (qC d).xs/2^Int.toNat ((↑(blen (val (qC d).xs)):Int)-p)))) ((qC d).e+((↑(blen (val (qC d).xs)):Int)-p))))))))):=by kernel_rfl
theorem rCut_ok:SpecOk Tryz.prog 80 rCut :=
  qG (qO Qh sRaw2_ok) mixed Tryz.func80 rfl (by decide) (by decide) fun (d:Dx) hd (p:Int) _ (up:Bool) _ hp=>⟨fun _=>none,0,by
    obtain ⟨s1,p0,p1⟩:Dx.Sm 34359738368 d∧0≤p∧p≤1099511627776:=hp
    have m1:=one_m0 (Dx.Wf.m0 hd)
    obtain ⟨z1,z2,z3⟩:=ZM (Dx.Wf.m0 hd) s1
    have b1:=s1.2
    refine (rCut_vc d p up _).mpr ?_
    show _∧_
    unfold Dx.m at m1 z1
    generalize hn:((blen (val (qC d).xs):Int)-p)=n
    have hq:0≤val (qC d).xs/2^n.toNat:=Int.ediv_nonneg m1 (by have:=two_pow_pos n.toNat;omega)
    have hql:(ws (val (qC d).xs/2^n.toNat)).length≤1073741825:=QR hq (by
      have:=ZK (m:=val (qC d).xs/2^n.toNat) (n:=val (qC d).xs) (Int.ediv_le_self _ m1);omega)
    have goal:cutD d p up=if n≤0 then qC d else mkD (qC d).neg (val (qC d).xs/2^n.toNat+if up == (qC d).neg then 0 else 1) ((qC d).e+n):=by
      rw [←hn];rfl
    refine ⟨⟨by omega,by omega⟩,⟨by omega,by omega⟩,qB (fun h=>?_) fun h=>⟨⟨by rw [Qn] at h;omega,by omega⟩,qB (fun h'=>?_) fun h'=>?_⟩⟩
    · show _=dT (cutD d p up)
      rw [goal,if_pos (zS.1 h)]
    · rw [qN hq,Zi,qN (by omega)]
      refine ⟨Yn,⟨by omega,by simp [ws_one]⟩,⟨by omega,by omega⟩,⟨by omega,by omega⟩,?_⟩
      show _=dT (cutD d p up)
      rw [goal,if_neg (Qn.1 h),if_neg (by cases up<;>cases hh:(qC d).neg<;>simp_all)]
    · rw [qN hq]
      refine ⟨⟨by omega,by omega⟩,⟨by omega,by omega⟩,?_⟩
      show _=dT (cutD d p up)
      rw [goal,if_neg (Qn.1 h),if_pos (by cases up<;>cases hh:(qC d).neg<;>simp_all),Int.add_zero]⟩
def rCmp:qU:=qF [.d,.d] fun (a:Dx) (b:Dx)=>(some (a.Sm 68719476736∧b.Sm 68719476736),iT (QJ a b))
theorem rCmp_vc(a b:Dx)(Q:Tv→Prop):qH ⟨tys,sRaw2⟩ (fun _=>none) 0 Tryz.f119 [.agg (dyL false a),.agg (dyL false b)] Q=(true=true∧br (ltI (Dx.sgn a) (Dx.sgn b)) (Q (Tv.sv (Sv.one (At.int IntKind.i64 (-1))))) (br (ltI (Dx.sgn b) (Dx.sgn a)) (Q (Tv.sv (Sv.one (At.int IntKind.i64 1)))) (br (eqI (Dx.sgn a) 0) (Q (Tv.sv (Sv.one (At.int IntKind.i64 0)))) (((-2305843009213693952:Int)≤a.e∧a.e≤2305843009213693952)∧((-2305843009213693952:Int)≤b.e∧b.e≤2305843009213693952)∧true=true∧br (neI (a.e+(↑(blen (Dx.m a)):Int)-1) (b.e+(↑(blen (Dx.m b)):Int)-1)) (br (ltI (a.e+(↑(blen (Dx.m a)):Int)-1) (b.e+(↑(blen (Dx.m b)):Int)-1)) (inR ((0:Int)-Dx.sgn a)∧Q (Tv.sv (Sv.one (At.int IntKind.i64 ((0:Int)-Dx.sgn a))))) (Q (Tv.sv (Sv.one (At.int IntKind.i64 (Dx.sgn a)))))) (((-4611686018427387904:Int)≤a.e∧a.e≤4611686018427387904)∧((-4611686018427387904:Int)≤b.e∧b.e≤4611686018427387904)∧(Dx.Sm 274877906944 (qC a)∧Dx.Sm 274877906944 (qC b))∧true=true∧inR (Dx.sgn a*Xj (val (ws (Dx.m (qC a)*2^Int.toNat ((qC a).e-min (qC a).e (qC b).e)))) (val (ws (Dx.m (qC b)*2^Int.toNat ((qC b).e-min (qC a).e (qC b).e)))))∧Q (Tv.sv (Sv.one (At.int IntKind.i64 (Dx.sgn a*Xj (val (ws (Dx.m (qC a)*2^Int.toNat ((qC a).e-min (qC a).e (qC b).e)))) (val (ws (Dx.m (qC b)*2^Int.toNat ((qC b).e-min (qC a).e (qC b).e))))))))))))):=by kernel_rfl
theorem rCmp_ok:SpecOk Tryz.prog 119 rCmp :=
  qG (qO Qh sRaw2_ok) mixed Tryz.func119 rfl (by decide) (by decide) fun (a:Dx) ha (b:Dx) hb hp=>⟨fun _=>none,0,by
    obtain ⟨s1,s2⟩:Dx.Sm 68719476736 a∧Dx.Sm 68719476736 b:=hp
    have m1:=Dx.Wf.m0 ha
    have m2:=Dx.Wf.m0 hb
    have z1:=ZM m1 s1
    have z2:=ZM m2 s2
    have b1:=s1.2
    have b2:=s2.2
    have c1:=sgn_cases (d:=a)
    refine (rCmp_vc a b _).mpr ⟨rfl,qB (fun h=>?_) fun h=>qB (fun h'=>?_) fun h'=>qB (fun h0=>?_) fun h0=>?_⟩
    · show _=iT (QJ a b)
      rw [cmpD_lt m1 m2 (qW.1 h)]
    · show _=iT (QJ a b)
      rw [cmpD_gt m1 m2 (qW.1 h')]
    · rw [qJ] at h h';rw [zX] at h0
      show _=iT (QJ a b)
      rw [cmpD_zero m1 m2 h0 (by omega)]
    · rw [qJ] at h h';rw [qR] at h0
      have hs:a.sgn=b.sgn:=by omega
      obtain ⟨t1,t2⟩:=cmpD_top m1 m2 hs h0
      refine ⟨⟨by omega,by omega⟩,⟨by omega,by omega⟩,rfl,qB (fun e=>qB (fun e'=>?_) fun e'=>?_) fun e=>?_⟩
      · refine ⟨⟨by omega,by omega⟩,?_⟩
        show _=iT (QJ a b)
        rw [t1 (qW.1 e'),Int.zero_sub]
      · rw [qJ] at e';rw [Qi] at e
        show _=iT (QJ a b)
        rw [t2 (by omega)]
      · have hm1:=Int.mul_nonneg (one_m0 m1) (show (0:Int)≤2^((qC a).e-min (qC a).e (qC b).e).toNat from by have:=two_pow_pos ((qC a).e-min (qC a).e (qC b).e).toNat;omega)
        have hm2:=Int.mul_nonneg (one_m0 m2) (show (0:Int)≤2^((qC b).e-min (qC a).e (qC b).e).toNat from by have:=two_pow_pos ((qC b).e-min (qC a).e (qC b).e).toNat;omega)
        rw [qN hm1,qN hm2]
        refine ⟨⟨by omega,by omega⟩,⟨by omega,by omega⟩,⟨z1.mono (by omega),z2.mono (by omega)⟩,rfl,?_,?_⟩
        · generalize (qC a).m*2^((qC a).e-min (qC a).e (qC b).e).toNat=X
          generalize (qC b).m*2^((qC b).e-min (qC a).e (qC b).e).toNat=Y
          have:Xj X Y = -1∨Xj X Y=0∨Xj X Y=1:=by unfold Xj;split<;>(try split)<;>omega
          rcases c1 with c1 | c1 | c1<;>rcases this with c | c | c<;>rw [c1,c]<;>exact ⟨by omega,by omega⟩
        · show _=iT (QJ a b)
          rw [cmpD_one m1 m2 hs h0]⟩
def sRaw3:List (FuncId×qU):=[(175,rAdd),(80,rCut),(119,rCmp)] ++ sRaw2
theorem sRaw3_ok:SpecsOk Tryz.prog sRaw3:=⟨rAdd_ok,rCut_ok,rCmp_ok,sRaw2_ok⟩
def rSub:qU:=qF [.d,.d] fun (a:Dx) (b:Dx)=>(some (a.Sm 34359738368∧b.Sm 34359738368),dT (Qm a b))
theorem rSub_vc(a b:Dx)(Q:Tv→Prop):qH ⟨tys,sRaw3⟩ (fun _=>none) 0 Tryz.f177 [.agg (dyL false a),.agg (dyL false b)] Q=(((-4611686018427387904:Int)≤b.e∧b.e≤4611686018427387904)∧(Dx.Sm 68719476736 a∧Dx.Sm 68719476736 (ZO b))∧true=true∧Q (Tv.sv (Sv.agg (dyL true (Qx a (ZO b)))))):=by kernel_rfl
theorem rSub_ok:SpecOk Tryz.prog 177 rSub :=
  qG (qO Qh sRaw3_ok) mixed Tryz.func177 rfl (by decide) (by decide) fun (a:Dx) ha (b:Dx) hb hp=>⟨fun _=>none,0,by
    obtain ⟨s1,s2⟩:Dx.Sm 34359738368 a∧Dx.Sm 34359738368 b:=hp
    have b2:=s2.2
    exact (rSub_vc a b _).mpr ⟨⟨by omega,by omega⟩,⟨s1.mono (by omega),(Yd s2 (Dx.Wf.m0 hb)).mono (by omega)⟩,rfl,rfl⟩⟩
def overX(x y:Dx)(p:Int)(up:Bool):Dx :=
  if x.m=0 then ⟨false,[],0⟩ else
  cutD (mkD (!(x.neg == y.neg)) (Ze (x.m*2^(max (p+2+blen y.m-blen x.m) 0).toNat/y.m) (decide (x.m*2^(max (p+2+blen y.m-blen x.m) 0).toNat % y.m≠0))) (x.e-y.e-max (p+2+blen y.m-blen x.m) 0-1)) p up
def Qc(a b:Dx)(p:Int)(up:Bool):Dx:=overX (qC a) (qC b) p up
theorem blen_mul{m n:Int}(hm:0≤m)(_:0≤n):blen (m*n)≤blen m+blen n:=by
  refine QW ?_
  rw [Int.pow_add]
  have h1:=Q5 m
  have h2:=Q5 n
  have p1:=two_pow_pos (blen m)
  exact Int.lt_of_le_of_lt (imL (Int.le_of_lt h2) hm) (Int.mul_lt_mul_of_pos_right h1 (two_pow_pos _))
theorem sticky_blen{q:Int}{b:Bool}(h:0≤q):0≤Ze q b∧blen (Ze q b)≤blen q+1:=by
  have h1:=Q5 q
  refine ⟨by unfold Ze;split<;>omega,QW ?_⟩
  rw [Int.pow_succ]
  unfold Ze;split<;>omega
def rOver:qU:=qF [.d,.d,.i .i64,.b] fun (a:Dx) (b:Dx) (p:Int) (up:Bool)=>(some (a.Sm 67108864∧b.Sm 67108864∧b.m≠0∧0≤p∧p≤67108864),dT (Qc a b p up))
theorem rOver_vc(a b:Dx)(p:Int)(up:Bool)(Q:Tv→Prop):qH ⟨tys,sRaw3⟩ (fun _=>none) 0 Tryz.f79 [.agg (dyL false a),.agg (dyL false b),.one (.int .i64 p),.one (.bool up)] Q=(((-4611686018427387904:Int)≤a.e∧a.e≤4611686018427387904)∧((-4611686018427387904:Int)≤b.e∧b.e≤4611686018427387904)∧true=true∧br (Dx.zeroB (qC a)) (Q (Tv.sv (Sv.agg [At.bool false,At.words true [],At.int IntKind.i64 0]))) (inR (p+2)∧inR (p+2+(↑(blen (val (qC b).xs)):Int))∧inR (p+2+(↑(blen (val (qC b).xs)):Int)-(↑(blen (val (qC a).xs)):Int))∧true=true∧((0:Int)≤maxI (p+2+(↑(blen (val (qC b).xs)):Int)-(↑(blen (val (qC a).xs)):Int)) 0∧maxI (p+2+(↑(blen (val (qC b).xs)):Int)-(↑(blen (val (qC a).xs)):Int)) 0≤1099511627776∧List.length (ws (val (qC a).xs))≤8796093022208)∧((0:Int)<val (qC b).xs∧List.length (ws (val (ws (val (qC a).xs*2^Int.toNat (maxI (p+2+(↑(blen (val (qC b).xs)):Int)-(↑(blen (val (qC a).xs)):Int)) 0)))))≤8796093022206)∧true=true∧inR ((qC a).e-(qC b).e)∧inR ((qC a).e-(qC b).e-maxI (p+2+(↑(blen (val (qC b).xs)):Int)-(↑(blen (val (qC a).xs)):Int)) 0)∧(List.length (ws (val (ws (val (ws (val (qC a).xs*2^Int.toNat (maxI (p+2+(↑(blen (val (qC b).xs)):Int)-(↑(blen (val (qC a).xs)):Int)) 0)))/val (qC b).xs))))≤8796093022207∧(-2305843009213693952:Int)≤(qC a).e-(qC b).e-maxI (p+2+(↑(blen (val (qC b).xs)):Int)-(↑(blen (val (qC a).xs)):Int)) 0∧(qC a).e-(qC b).e-maxI (p+2+(↑(blen (val (qC b).xs)):Int)-(↑(blen (val (qC a).xs)):Int)) 0≤2305843009213693952)∧(Dx.Sm 34359738368 (mkD (!(qC a).neg == (qC b).neg) (Ze (val (ws (val (ws (val (qC a).xs*2^Int.toNat (maxI (p+2+(↑(blen (val (qC b).xs)):Int)-(↑(blen (val (qC a).xs)):Int)) 0)))/val (qC b).xs))) (ltI 0 (↑(List.length (ws (val (ws (val (qC a).xs*2^Int.toNat (maxI (p+2+(↑(blen (val (qC b).xs)):Int)-(↑(blen (val (qC a).xs)):Int)) 0))) % val (qC b).xs))):Int))) ((qC a).e-(qC b).e-maxI (p+2+(↑(blen (val (qC b).xs)):Int)-(↑(blen (val (qC a).xs)):Int)) 0-1))∧(0:Int)≤p∧p≤1099511627776)∧Q (Tv.sv (Sv.agg (dyL true (cutD (mkD (!(qC a).neg == (qC b).neg) (Ze (val (ws (val (ws (val (qC a).xs*2^Int.toNat (maxI (p+2+(↑(blen (val (qC b).xs)):Int)-(↑(blen (val (qC a).xs)):Int)) 0)))/val (qC b).xs))) (ltI 0 (↑(List.length (ws (val (ws (val (qC a).xs*2^Int.toNat (maxI (p+2+(↑(blen (val (qC b).xs)):Int)-(↑(blen (val (qC a).xs)):Int)) 0))) % val (qC b).xs))):Int))) ((qC a).e-(qC b).e-maxI (p+2+(↑(blen (val (qC b).xs)):Int)-(↑(blen (val (qC a).xs)):Int)) 0-1)) p up)))))):=by kernel_rfl
theorem rOver_ok:SpecOk Tryz.prog 79 rOver :=
  qG (qO Qh sRaw3_ok) mixed Tryz.func79 rfl (by decide) (by decide) fun (a:Dx) ha (b:Dx) hb (p:Int) _ (up:Bool) _ hp=>⟨fun _=>none,0,by
    obtain ⟨s1,s2,hb0,p0,p1⟩:Dx.Sm 67108864 a∧Dx.Sm 67108864 b∧Dx.m b≠0∧0≤p∧p≤67108864:=hp
    have m1:=one_m0 (Dx.Wf.m0 ha)
    have m2:=one_m0 (Dx.Wf.m0 hb)
    have m2p:0<(qC b).m:=by have:=(one_m_zero (Dx.Wf.m0 hb)).1;omega
    have z1:=ZM (Dx.Wf.m0 ha) s1
    have z2:=ZM (Dx.Wf.m0 hb) s2
    have b1:=s1.2
    have b2:=s2.2
    show qH _ _ _ _ _ (fun t=>t=dT (overX (qC a) (qC b) p up))
    refine (rOver_vc a b p up _).mpr ⟨⟨by omega,by omega⟩,⟨by omega,by omega⟩,rfl,?_⟩
    generalize qC a=x at *
    generalize qC b=y at *
    refine qB (fun h=>?_) fun h=>?_
    · rw [overX,if_pos (QC.1 h)];rfl
    · rw [QV] at h
      rw [overX,if_neg h]
      obtain ⟨s3,s4,s5⟩:=z1
      obtain ⟨s6,s7,s8⟩:=z2
      unfold Dx.m at *
      generalize val x.xs=X at *
      generalize val y.xs=Y at *
      rw [maxI_eq]
      generalize hk:max (p+2+(blen Y:Int)-(blen X:Int)) 0=k
      have k0:0≤k:=by omega
      have k1:k≤201326596:=by omega
      have hM:0≤X*2^k.toNat:=Int.mul_nonneg m1 (by have:=two_pow_pos k.toNat;omega)
      have hMb:blen (X*2^k.toNat)≤335544324:=by rw [Ql (by omega)];omega
      have hQ:0≤X*2^k.toNat/Y:=Int.ediv_nonneg hM m2
      have hQb:=ZK (m:=X*2^k.toNat/Y) (n:=X*2^k.toNat) (Int.ediv_le_self _ hM)
      have hR:0≤X*2^k.toNat % Y:=Int.emod_nonneg _ (by omega)
      rw [qN hM,qN hQ,YV hR]
      have l1:=QR (n:=X) (k:=8796093022206) m1 (by omega)
      have l2:=QR (k:=8796093022206) hM (by omega)
      have l3:=QR (k:=8796093022206) hQ (by omega)
      obtain ⟨t1,t2⟩:=sticky_blen (b:=decide (X*2^k.toNat % Y≠0)) hQ
      refine ⟨⟨by omega,by omega⟩,⟨by omega,by omega⟩,⟨by omega,by omega⟩,rfl,⟨by omega,by omega,by omega⟩,⟨m2p,by omega⟩,rfl,⟨by omega,by omega⟩,⟨by omega,by omega⟩,⟨by omega,by omega,by omega⟩,⟨?_,by omega,by omega⟩,rfl⟩
      exact (mkD_sm (N:=1073741824) (M:=1073741824) t1 (by omega) (by omega) (by omega)).mono (by omega)⟩
theorem and_mask3(n:Int):ZG .and .i64 n 3=n % 4:=by
  have h1:(BitVec.ofInt 64 3).toNat=2^2-1:=by decide
  have key:(BitVec.ofInt 64 n &&& BitVec.ofInt 64 3).toNat=(n % ((2^64:Nat):Int)).toNat % 2^2:=by
    rw [BitVec.toNat_and,BitVec.toNat_ofInt,h1,Nat.and_two_pow_sub_one_eq_mod]
  show IntKind.i64.wrap ((BitVec.ofInt 64 n &&& BitVec.ofInt 64 3).toNat:Nat)=n % 4
  rw [key,IntKind.wrap_i64]
  omega
def sRaw4:List (FuncId×qU):=[(177,rSub),(79,rOver)] ++ sRaw3
theorem sRaw4_ok:SpecsOk Tryz.prog sRaw4:=⟨rSub_ok,rOver_ok,sRaw3_ok⟩
theorem specOk_at {P : Program} {E : Env} (hE : EnvOk P E) (hm : P.follows .mixedOrders = true) {f : FuncId} {fn : Func} {c : Code} (hf : P.funcs[f]? = some fn) (hb : fn.body = some c) (hname : (fn.name == "runtime.NumGoroutine") = false) {sp : qU} (k : Nat) (hk : k ≤ fn.ntmps)
    (h:∀ l p t,sp l=(p,t)→(match p with | none=>True | some p=>p)→l.length≤k∧∃ inv fuel,qH E inv fuel fn l (fun x=>x=t)):SpecOk P f sp :=
  specOk_of hE hm hf hb hname k hk fun l hp=>h l (sp l).1 (sp l).2 rfl hp
def vF(v:Vx):Tv:=.sv (.agg (ivL false v))
def Qp(v:Vx)(d:Dx):Vx:=⟨if QJ d v.lo<0 then d else v.lo,if 0<QJ d v.hi then d else v.hi⟩
def Vx.Sm(N:Nat)(v:Vx):Prop:=v.lo.Sm N∧v.hi.Sm N
theorem spanS_sm{N:Nat}{v:Vx}{d:Dx}(h:v.Sm N)(k:d.Sm N):(Qp v d).Sm N:=by
  unfold Qp
  constructor
  · show Dx.Sm N (if _ then _ else _);split<;>first | exact k | exact h.1
  · show Dx.Sm N (if _ then _ else _);split<;>first | exact k | exact h.2
def Qt(a:Dx)(l:List Dx):Vx:=l.foldl Qp ⟨a,a⟩
def spK:LKeep:=⟨[14,15,16,3,2],[(0,6),(8,6)],14⟩
def spSt(n:Nat)(cs:List At)(j:Int)(v:Vx):List (Nat×Tv)×List (Nat×Nat×At) :=
  ([(14,.sv (.one (.rows false 3 n cs))),(15,iT n),(16,iT j),(3,.sv (.one (.ptr 8 0))),(2,.sv (.one (.ptr 0 0)))],
   [(0,0,.bool false),(0,1,.words true []),(0,2,.int .i64 0),(0,3,.bool false),(0,4,.words true []),(0,5,.int .i64 0),(8,0,.bool v.lo.neg),(8,1,.words false v.lo.xs),(8,2,.int .i64 v.lo.e),(8,3,.bool v.hi.neg),(8,4,.words false v.hi.xs),(8,5,.int .i64 v.hi.e)])
theorem rSpan2_vc(a b:Dx)(Q:Tv→Prop):qH ⟨tys,sRaw4⟩ (invAt 3 (.cuts spK [spSt 1 (dyL false b) 0 ⟨a,a⟩,spSt 1 (dyL false b) 1 (Qp ⟨a,a⟩ b)])) 0 Tryz.f78 [.one (.rows false 3 2 (dyL false a ++ dyL false b))] Q=(((0:Int)≤0∧(0:Int)<(↑(2:Nat):Int))∧  ((0:Int)≤0∧(0:Int)<(↑(2:Nat):Int))∧    true=true∧      ((0:Int)≤1∧(1:Int)<(↑(2:Nat):Int))∧        true=true∧          Sg.mk [((14:Nat),Tv.sv (Sv.one (At.rows false 3 1 (dyL false b)))),((15:Nat),Tv.sv (Sv.one (At.int IntKind.i64 (↑(1:Nat):Int)))),((16:Nat),Tv.sv (Sv.one (At.int IntKind.i64 0))),((3:Nat),Tv.sv (Sv.one (At.ptr ((1:Nat)+7) 0))),((2:Nat),Tv.sv (Sv.one (At.ptr 0 0)))] [((0:Nat),(0:Nat),At.bool false),((0:Nat),(1:Nat),At.words true []),((0:Nat),(2:Nat),At.int IntKind.i64 0),((0:Nat),(3:Nat),At.bool false),((0:Nat),(4:Nat),At.words true []),((0:Nat),(5:Nat),At.int IntKind.i64 0),((8:Nat),(0:Nat),At.bool a.neg),((8:Nat),(1:Nat),At.words false a.xs),((8:Nat),(2:Nat),At.int IntKind.i64 a.e),((8:Nat),(3:Nat),At.bool a.neg),((8:Nat),(4:Nat),At.words false a.xs),((8:Nat),(5:Nat),At.int IntKind.i64 a.e)] 14=Sg.mk [((14:Nat),Tv.sv (Sv.one (At.rows false 3 1 (dyL false b)))),((15:Nat),Tv.sv (Sv.one (At.int IntKind.i64 (↑(1:Nat):Int)))),((16:Nat),Tv.sv (Sv.one (At.int IntKind.i64 0))),((3:Nat),Tv.sv (Sv.one (At.ptr 8 0))),((2:Nat),Tv.sv (Sv.one (At.ptr 0 0)))] [((0:Nat),(0:Nat),At.bool false),((0:Nat),(1:Nat),At.words true []),((0:Nat),(2:Nat),At.int IntKind.i64 0),((0:Nat),(3:Nat),At.bool false),((0:Nat),(4:Nat),At.words true []),((0:Nat),(5:Nat),At.int IntKind.i64 0),((8:Nat),(0:Nat),At.bool a.neg),((8:Nat),(1:Nat),At.words false a.xs),((8:Nat),(2:Nat),At.int IntKind.i64 a.e),((8:Nat),(3:Nat),At.bool a.neg),((8:Nat),(4:Nat),At.words false a.xs),((8:Nat),(5:Nat),At.int IntKind.i64 a.e)] 14∧            (((0:Int)≤0∧(0:Int)<(↑(1:Nat):Int))∧                (Dx.Sm 68719476736 b∧Dx.Sm 68719476736 a)∧                  br (ltI (QJ b a) 0)                     ((Dx.Sm 68719476736 b∧Dx.Sm 68719476736 a)∧                      br (ltI 0 (QJ b a)) (inR ((0:Int)+1)∧true=true∧Sg.mk [((14:Nat),Tv.sv (Sv.one (At.rows false 3 1 (dyL false b)))),((15:Nat),Tv.sv (Sv.one (At.int IntKind.i64 (↑(1:Nat):Int)))),((16:Nat),Tv.sv (Sv.one (At.int IntKind.i64 ((0:Int)+1)))),((3:Nat),Tv.sv (Sv.one (At.ptr 8 0))),((2:Nat),Tv.sv (Sv.one (At.ptr 0 0)))] [((0:Nat),(0:Nat),At.bool false),((0:Nat),(1:Nat),At.words true []),((0:Nat),(2:Nat),At.int IntKind.i64 0),((0:Nat),(3:Nat),At.bool false),((0:Nat),(4:Nat),At.words true []),((0:Nat),(5:Nat),At.int IntKind.i64 0),((8:Nat),(0:Nat),At.bool b.neg),((8:Nat),(1:Nat),At.words false b.xs),((8:Nat),(2:Nat),At.int IntKind.i64 b.e),((8:Nat),(3:Nat),At.bool b.neg),((8:Nat),(4:Nat),At.words false b.xs),((8:Nat),(5:Nat),At.int IntKind.i64 b.e)] 14=Sg.mk [((14:Nat),Tv.sv (Sv.one (At.rows false 3 1 (dyL false b)))),((15:Nat),Tv.sv (Sv.one (At.int IntKind.i64 (↑(1:Nat):Int)))),((16:Nat),Tv.sv (Sv.one (At.int IntKind.i64 1))),((3:Nat),Tv.sv (Sv.one (At.ptr 8 0))),((2:Nat),Tv.sv (Sv.one (At.ptr 0 0)))] [((0:Nat),(0:Nat),At.bool false),((0:Nat),(1:Nat),At.words true []),((0:Nat),(2:Nat),At.int IntKind.i64 0),((0:Nat),(3:Nat),At.bool false),((0:Nat),(4:Nat),At.words true []),((0:Nat),(5:Nat),At.int IntKind.i64 0),((8:Nat),(0:Nat),At.bool (Qp (Vx.mk a a) b).lo.neg),((8:Nat),(1:Nat),At.words false (Qp (Vx.mk a a) b).lo.xs),((8:Nat),(2:Nat),At.int IntKind.i64 (Qp (Vx.mk a a) b).lo.e),((8:Nat),(3:Nat),At.bool (Qp (Vx.mk a a) b).hi.neg),((8:Nat),(4:Nat),At.words false (Qp (Vx.mk a a) b).hi.xs),((8:Nat),(5:Nat),At.int IntKind.i64 (Qp (Vx.mk a a) b).hi.e)] 14) (inR ((0:Int)+1)∧true=true∧Sg.mk [((14:Nat),Tv.sv (Sv.one (At.rows false 3 1 (dyL false b)))),((15:Nat),Tv.sv (Sv.one (At.int IntKind.i64 (↑(1:Nat):Int)))),((16:Nat),Tv.sv (Sv.one (At.int IntKind.i64 ((0:Int)+1)))),((3:Nat),Tv.sv (Sv.one (At.ptr 8 0))),((2:Nat),Tv.sv (Sv.one (At.ptr 0 0)))] [((0:Nat),(0:Nat),At.bool false),((0:Nat),(1:Nat),At.words true []),((0:Nat),(2:Nat),At.int IntKind.i64 0),((0:Nat),(3:Nat),At.bool false),((0:Nat),(4:Nat),At.words true []),((0:Nat),(5:Nat),At.int IntKind.i64 0),((8:Nat),(0:Nat),At.bool b.neg),((8:Nat),(1:Nat),At.words false b.xs),((8:Nat),(2:Nat),At.int IntKind.i64 b.e),((8:Nat),(3:Nat),At.bool a.neg),((8:Nat),(4:Nat),At.words false a.xs),((8:Nat),(5:Nat),At.int IntKind.i64 a.e)] 14=Sg.mk [((14:Nat),Tv.sv (Sv.one (At.rows false 3 1 (dyL false b)))),((15:Nat),Tv.sv (Sv.one (At.int IntKind.i64 (↑(1:Nat):Int)))),((16:Nat),Tv.sv (Sv.one (At.int IntKind.i64 1))),((3:Nat),Tv.sv (Sv.one (At.ptr 8 0))),((2:Nat),Tv.sv (Sv.one (At.ptr 0 0)))] [((0:Nat),(0:Nat),At.bool false),((0:Nat),(1:Nat),At.words true []),((0:Nat),(2:Nat),At.int IntKind.i64 0),((0:Nat),(3:Nat),At.bool false),((0:Nat),(4:Nat),At.words true []),((0:Nat),(5:Nat),At.int IntKind.i64 0),((8:Nat),(0:Nat),At.bool (Qp (Vx.mk a a) b).lo.neg),((8:Nat),(1:Nat),At.words false (Qp (Vx.mk a a) b).lo.xs),((8:Nat),(2:Nat),At.int IntKind.i64 (Qp (Vx.mk a a) b).lo.e),((8:Nat),(3:Nat),At.bool (Qp (Vx.mk a a) b).hi.neg),((8:Nat),(4:Nat),At.words false (Qp (Vx.mk a a) b).hi.xs),((8:Nat),(5:Nat),At.int IntKind.i64 (Qp (Vx.mk a a) b).hi.e)] 14))                     ((Dx.Sm 68719476736 b∧Dx.Sm 68719476736 a)∧                      br (ltI 0 (QJ b a)) (inR ((0:Int)+1)∧true=true∧Sg.mk [((14:Nat),Tv.sv (Sv.one (At.rows false 3 1 (dyL false b)))),((15:Nat),Tv.sv (Sv.one (At.int IntKind.i64 (↑(1:Nat):Int)))),((16:Nat),Tv.sv (Sv.one (At.int IntKind.i64 ((0:Int)+1)))),((3:Nat),Tv.sv (Sv.one (At.ptr 8 0))),((2:Nat),Tv.sv (Sv.one (At.ptr 0 0)))] [((0:Nat),(0:Nat),At.bool false),((0:Nat),(1:Nat),At.words true []),((0:Nat),(2:Nat),At.int IntKind.i64 0),((0:Nat),(3:Nat),At.bool false),((0:Nat),(4:Nat),At.words true []),((0:Nat),(5:Nat),At.int IntKind.i64 0),((8:Nat),(0:Nat),At.bool a.neg),((8:Nat),(1:Nat),At.words false a.xs),((8:Nat),(2:Nat),At.int IntKind.i64 a.e),((8:Nat),(3:Nat),At.bool b.neg),((8:Nat),(4:Nat),At.words false b.xs),((8:Nat),(5:Nat),At.int IntKind.i64 b.e)] 14=Sg.mk [((14:Nat),Tv.sv (Sv.one (At.rows false 3 1 (dyL false b)))),((15:Nat),Tv.sv (Sv.one (At.int IntKind.i64 (↑(1:Nat):Int)))),((16:Nat),Tv.sv (Sv.one (At.int IntKind.i64 1))),((3:Nat),Tv.sv (Sv.one (At.ptr 8 0))),((2:Nat),Tv.sv (Sv.one (At.ptr 0 0)))] [((0:Nat),(0:Nat),At.bool false),((0:Nat),(1:Nat),At.words true []),((0:Nat),(2:Nat),At.int IntKind.i64 0),((0:Nat),(3:Nat),At.bool false),((0:Nat),(4:Nat),At.words true []),((0:Nat),(5:Nat),At.int IntKind.i64 0),((8:Nat),(0:Nat),At.bool (Qp (Vx.mk a a) b).lo.neg),((8:Nat),(1:Nat),At.words false (Qp (Vx.mk a a) b).lo.xs),((8:Nat),(2:Nat),At.int IntKind.i64 (Qp (Vx.mk a a) b).lo.e),((8:Nat),(3:Nat),At.bool (Qp (Vx.mk a a) b).hi.neg),((8:Nat),(4:Nat),At.words false (Qp (Vx.mk a a) b).hi.xs),((8:Nat),(5:Nat),At.int IntKind.i64 (Qp (Vx.mk a a) b).hi.e)] 14) (inR ((0:Int)+1)∧true=true∧Sg.mk [((14:Nat),Tv.sv (Sv.one (At.rows false 3 1 (dyL false b)))),((15:Nat),Tv.sv (Sv.one (At.int IntKind.i64 (↑(1:Nat):Int)))),((16:Nat),Tv.sv (Sv.one (At.int IntKind.i64 ((0:Int)+1)))),((3:Nat),Tv.sv (Sv.one (At.ptr 8 0))),((2:Nat),Tv.sv (Sv.one (At.ptr 0 0)))] [((0:Nat),(0:Nat),At.bool false),((0:Nat),(1:Nat),At.words true []),((0:Nat),(2:Nat),At.int IntKind.i64 0),((0:Nat),(3:Nat),At.bool false),((0:Nat),(4:Nat),At.words true []),((0:Nat),(5:Nat),At.int IntKind.i64 0),((8:Nat),(0:Nat),At.bool a.neg),((8:Nat),(1:Nat),At.words false a.xs),((8:Nat),(2:Nat),At.int IntKind.i64 a.e),((8:Nat),(3:Nat),At.bool a.neg),((8:Nat),(4:Nat),At.words false a.xs),((8:Nat),(5:Nat),At.int IntKind.i64 a.e)] 14=Sg.mk [((14:Nat),Tv.sv (Sv.one (At.rows false 3 1 (dyL false b)))),((15:Nat),Tv.sv (Sv.one (At.int IntKind.i64 (↑(1:Nat):Int)))),((16:Nat),Tv.sv (Sv.one (At.int IntKind.i64 1))),((3:Nat),Tv.sv (Sv.one (At.ptr 8 0))),((2:Nat),Tv.sv (Sv.one (At.ptr 0 0)))] [((0:Nat),(0:Nat),At.bool false),((0:Nat),(1:Nat),At.words true []),((0:Nat),(2:Nat),At.int IntKind.i64 0),((0:Nat),(3:Nat),At.bool false),((0:Nat),(4:Nat),At.words true []),((0:Nat),(5:Nat),At.int IntKind.i64 0),((8:Nat),(0:Nat),At.bool (Qp (Vx.mk a a) b).lo.neg),((8:Nat),(1:Nat),At.words false (Qp (Vx.mk a a) b).lo.xs),((8:Nat),(2:Nat),At.int IntKind.i64 (Qp (Vx.mk a a) b).lo.e),((8:Nat),(3:Nat),At.bool (Qp (Vx.mk a a) b).hi.neg),((8:Nat),(4:Nat),At.words false (Qp (Vx.mk a a) b).hi.xs),((8:Nat),(5:Nat),At.int IntKind.i64 (Qp (Vx.mk a a) b).hi.e)] 14)))∧              Q (Tv.sv (Sv.agg (ivL false (Qp (Vx.mk a a) b))))∧True):=by kernel_rfl
theorem rSpan4_vc(a b c d:Dx)(v1 v2 v3:Vx)(Q:Tv→Prop):qH ⟨tys,sRaw4⟩ (invAt 3 (.cuts spK [spSt 3 (dyL false b ++ (dyL false c ++ dyL false d)) 0 ⟨a,a⟩,spSt 3 (dyL false b ++ (dyL false c ++ dyL false d)) 1 v1,spSt 3 (dyL false b ++ (dyL false c ++ dyL false d)) 2 v2,spSt 3 (dyL false b ++ (dyL false c ++ dyL false d)) 3 v3])) 0 Tryz.f78 [.one (.rows false 3 4 (dyL false a ++ (dyL false b ++ (dyL false c ++ dyL false d))))] Q=(((0:Int)≤0∧(0:Int)<(↑(4:Nat):Int))∧  ((0:Int)≤0∧(0:Int)<(↑(4:Nat):Int))∧    true=true∧      ((0:Int)≤1∧(1:Int)<(↑(4:Nat):Int))∧        true=true∧          Sg.mk [((14:Nat),Tv.sv (Sv.one (At.rows false 3 3 (At.bool b.neg :: At.words false b.xs :: At.int IntKind.i64 b.e :: ivL false (Vx.mk c d))))),((15:Nat),Tv.sv (Sv.one (At.int IntKind.i64 (↑(3:Nat):Int)))),((16:Nat),Tv.sv (Sv.one (At.int IntKind.i64 0))),((3:Nat),Tv.sv (Sv.one (At.ptr ((1:Nat)+7) 0))),((2:Nat),Tv.sv (Sv.one (At.ptr 0 0)))] [((0:Nat),(0:Nat),At.bool false),((0:Nat),(1:Nat),At.words true []),((0:Nat),(2:Nat),At.int IntKind.i64 0),((0:Nat),(3:Nat),At.bool false),((0:Nat),(4:Nat),At.words true []),((0:Nat),(5:Nat),At.int IntKind.i64 0),((8:Nat),(0:Nat),At.bool a.neg),((8:Nat),(1:Nat),At.words false a.xs),((8:Nat),(2:Nat),At.int IntKind.i64 a.e),((8:Nat),(3:Nat),At.bool a.neg),((8:Nat),(4:Nat),At.words false a.xs),((8:Nat),(5:Nat),At.int IntKind.i64 a.e)] 14=Sg.mk [((14:Nat),Tv.sv (Sv.one (At.rows false 3 3 (At.bool b.neg :: At.words false b.xs :: At.int IntKind.i64 b.e :: ivL false (Vx.mk c d))))),((15:Nat),Tv.sv (Sv.one (At.int IntKind.i64 (↑(3:Nat):Int)))),((16:Nat),Tv.sv (Sv.one (At.int IntKind.i64 0))),((3:Nat),Tv.sv (Sv.one (At.ptr 8 0))),((2:Nat),Tv.sv (Sv.one (At.ptr 0 0)))] [((0:Nat),(0:Nat),At.bool false),((0:Nat),(1:Nat),At.words true []),((0:Nat),(2:Nat),At.int IntKind.i64 0),((0:Nat),(3:Nat),At.bool false),((0:Nat),(4:Nat),At.words true []),((0:Nat),(5:Nat),At.int IntKind.i64 0),((8:Nat),(0:Nat),At.bool a.neg),((8:Nat),(1:Nat),At.words false a.xs),((8:Nat),(2:Nat),At.int IntKind.i64 a.e),((8:Nat),(3:Nat),At.bool a.neg),((8:Nat),(4:Nat),At.words false a.xs),((8:Nat),(5:Nat),At.int IntKind.i64 a.e)] 14∧            (((0:Int)≤0∧(0:Int)<(↑(3:Nat):Int))∧                (Dx.Sm 68719476736 b∧Dx.Sm 68719476736 a)∧                  br (ltI (QJ b a) 0)                     ((Dx.Sm 68719476736 b∧Dx.Sm 68719476736 a)∧                      br (ltI 0 (QJ b a)) (inR ((0:Int)+1)∧true=true∧Sg.mk [((14:Nat),Tv.sv (Sv.one (At.rows false 3 3 (At.bool b.neg :: At.words false b.xs :: At.int IntKind.i64 b.e :: ivL false (Vx.mk c d))))),((15:Nat),Tv.sv (Sv.one (At.int IntKind.i64 (↑(3:Nat):Int)))),((16:Nat),Tv.sv (Sv.one (At.int IntKind.i64 ((0:Int)+1)))),((3:Nat),Tv.sv (Sv.one (At.ptr 8 0))),((2:Nat),Tv.sv (Sv.one (At.ptr 0 0)))] [((0:Nat),(0:Nat),At.bool false),((0:Nat),(1:Nat),At.words true []),((0:Nat),(2:Nat),At.int IntKind.i64 0),((0:Nat),(3:Nat),At.bool false),((0:Nat),(4:Nat),At.words true []),((0:Nat),(5:Nat),At.int IntKind.i64 0),((8:Nat),(0:Nat),At.bool b.neg),((8:Nat),(1:Nat),At.words false b.xs),((8:Nat),(2:Nat),At.int IntKind.i64 b.e),((8:Nat),(3:Nat),At.bool b.neg),((8:Nat),(4:Nat),At.words false b.xs),((8:Nat),(5:Nat),At.int IntKind.i64 b.e)] 14=Sg.mk [((14:Nat),Tv.sv (Sv.one (At.rows false 3 3 (At.bool b.neg :: At.words false b.xs :: At.int IntKind.i64 b.e :: ivL false (Vx.mk c d))))),((15:Nat),Tv.sv (Sv.one (At.int IntKind.i64 (↑(3:Nat):Int)))),((16:Nat),Tv.sv (Sv.one (At.int IntKind.i64 1))),((3:Nat),Tv.sv (Sv.one (At.ptr 8 0))),((2:Nat),Tv.sv (Sv.one (At.ptr 0 0)))] [((0:Nat),(0:Nat),At.bool false),((0:Nat),(1:Nat),At.words true []),((0:Nat),(2:Nat),At.int IntKind.i64 0),((0:Nat),(3:Nat),At.bool false),((0:Nat),(4:Nat),At.words true []),((0:Nat),(5:Nat),At.int IntKind.i64 0),((8:Nat),(0:Nat),At.bool v1.lo.neg),((8:Nat),(1:Nat),At.words false v1.lo.xs),((8:Nat),(2:Nat),At.int IntKind.i64 v1.lo.e),((8:Nat),(3:Nat),At.bool v1.hi.neg),((8:Nat),(4:Nat),At.words false v1.hi.xs),((8:Nat),(5:Nat),At.int IntKind.i64 v1.hi.e)] 14)                         (inR ((0:Int)+1)∧true=true∧Sg.mk [((14:Nat),Tv.sv (Sv.one (At.rows false 3 3 (At.bool b.neg :: At.words false b.xs :: At.int IntKind.i64 b.e :: ivL false (Vx.mk c d))))),((15:Nat),Tv.sv (Sv.one (At.int IntKind.i64 (↑(3:Nat):Int)))),((16:Nat),Tv.sv (Sv.one (At.int IntKind.i64 ((0:Int)+1)))),((3:Nat),Tv.sv (Sv.one (At.ptr 8 0))),((2:Nat),Tv.sv (Sv.one (At.ptr 0 0)))] [((0:Nat),(0:Nat),At.bool false),((0:Nat),(1:Nat),At.words true []),((0:Nat),(2:Nat),At.int IntKind.i64 0),((0:Nat),(3:Nat),At.bool false),((0:Nat),(4:Nat),At.words true []),((0:Nat),(5:Nat),At.int IntKind.i64 0),((8:Nat),(0:Nat),At.bool b.neg),((8:Nat),(1:Nat),At.words false b.xs),((8:Nat),(2:Nat),At.int IntKind.i64 b.e),((8:Nat),(3:Nat),At.bool a.neg),((8:Nat),(4:Nat),At.words false a.xs),((8:Nat),(5:Nat),At.int IntKind.i64 a.e)] 14=Sg.mk [((14:Nat),Tv.sv (Sv.one (At.rows false 3 3 (At.bool b.neg :: At.words false b.xs :: At.int IntKind.i64 b.e :: ivL false (Vx.mk c d))))),((15:Nat),Tv.sv (Sv.one (At.int IntKind.i64 (↑(3:Nat):Int)))),((16:Nat),Tv.sv (Sv.one (At.int IntKind.i64 1))),((3:Nat),Tv.sv (Sv.one (At.ptr 8 0))),((2:Nat),Tv.sv (Sv.one (At.ptr 0 0)))] [((0:Nat),(0:Nat),At.bool false),((0:Nat),(1:Nat),At.words true []),((0:Nat),(2:Nat),At.int IntKind.i64 0),((0:Nat),(3:Nat),At.bool false),((0:Nat),(4:Nat),At.words true []),((0:Nat),(5:Nat),At.int IntKind.i64 0),((8:Nat),(0:Nat),At.bool v1.lo.neg),((8:Nat),(1:Nat),At.words false v1.lo.xs),((8:Nat),(2:Nat),At.int IntKind.i64 v1.lo.e),((8:Nat),(3:Nat),At.bool v1.hi.neg),((8:Nat),(4:Nat),At.words false v1.hi.xs),((8:Nat),(5:Nat),At.int IntKind.i64 v1.hi.e)] 14))                     ((Dx.Sm 68719476736 b∧Dx.Sm 68719476736 a)∧                      br (ltI 0 (QJ b a)) (inR ((0:Int)+1)∧true=true∧Sg.mk [((14:Nat),Tv.sv (Sv.one (At.rows false 3 3 (At.bool b.neg :: At.words false b.xs :: At.int IntKind.i64 b.e :: ivL false (Vx.mk c d))))),((15:Nat),Tv.sv (Sv.one (At.int IntKind.i64 (↑(3:Nat):Int)))),((16:Nat),Tv.sv (Sv.one (At.int IntKind.i64 ((0:Int)+1)))),((3:Nat),Tv.sv (Sv.one (At.ptr 8 0))),((2:Nat),Tv.sv (Sv.one (At.ptr 0 0)))] [((0:Nat),(0:Nat),At.bool false),((0:Nat),(1:Nat),At.words true []),((0:Nat),(2:Nat),At.int IntKind.i64 0),((0:Nat),(3:Nat),At.bool false),((0:Nat),(4:Nat),At.words true []),((0:Nat),(5:Nat),At.int IntKind.i64 0),((8:Nat),(0:Nat),At.bool a.neg),((8:Nat),(1:Nat),At.words false a.xs),((8:Nat),(2:Nat),At.int IntKind.i64 a.e),((8:Nat),(3:Nat),At.bool b.neg),((8:Nat),(4:Nat),At.words false b.xs),((8:Nat),(5:Nat),At.int IntKind.i64 b.e)] 14=Sg.mk [((14:Nat),Tv.sv (Sv.one (At.rows false 3 3 (At.bool b.neg :: At.words false b.xs :: At.int IntKind.i64 b.e :: ivL false (Vx.mk c d))))),((15:Nat),Tv.sv (Sv.one (At.int IntKind.i64 (↑(3:Nat):Int)))),((16:Nat),Tv.sv (Sv.one (At.int IntKind.i64 1))),((3:Nat),Tv.sv (Sv.one (At.ptr 8 0))),((2:Nat),Tv.sv (Sv.one (At.ptr 0 0)))] [((0:Nat),(0:Nat),At.bool false),((0:Nat),(1:Nat),At.words true []),((0:Nat),(2:Nat),At.int IntKind.i64 0),((0:Nat),(3:Nat),At.bool false),((0:Nat),(4:Nat),At.words true []),((0:Nat),(5:Nat),At.int IntKind.i64 0),((8:Nat),(0:Nat),At.bool v1.lo.neg),((8:Nat),(1:Nat),At.words false v1.lo.xs),((8:Nat),(2:Nat),At.int IntKind.i64 v1.lo.e),((8:Nat),(3:Nat),At.bool v1.hi.neg),((8:Nat),(4:Nat),At.words false v1.hi.xs),((8:Nat),(5:Nat),At.int IntKind.i64 v1.hi.e)] 14)                         (inR ((0:Int)+1)∧true=true∧Sg.mk [((14:Nat),Tv.sv (Sv.one (At.rows false 3 3 (At.bool b.neg :: At.words false b.xs :: At.int IntKind.i64 b.e :: ivL false (Vx.mk c d))))),((15:Nat),Tv.sv (Sv.one (At.int IntKind.i64 (↑(3:Nat):Int)))),((16:Nat),Tv.sv (Sv.one (At.int IntKind.i64 ((0:Int)+1)))),((3:Nat),Tv.sv (Sv.one (At.ptr 8 0))),((2:Nat),Tv.sv (Sv.one (At.ptr 0 0)))] [((0:Nat),(0:Nat),At.bool false),((0:Nat),(1:Nat),At.words true []),((0:Nat),(2:Nat),At.int IntKind.i64 0),((0:Nat),(3:Nat),At.bool false),((0:Nat),(4:Nat),At.words true []),((0:Nat),(5:Nat),At.int IntKind.i64 0),((8:Nat),(0:Nat),At.bool a.neg),((8:Nat),(1:Nat),At.words false a.xs),((8:Nat),(2:Nat),At.int IntKind.i64 a.e),((8:Nat),(3:Nat),At.bool a.neg),((8:Nat),(4:Nat),At.words false a.xs),((8:Nat),(5:Nat),At.int IntKind.i64 a.e)] 14=Sg.mk [((14:Nat),Tv.sv (Sv.one (At.rows false 3 3 (At.bool b.neg :: At.words false b.xs :: At.int IntKind.i64 b.e :: ivL false (Vx.mk c d))))),((15:Nat),Tv.sv (Sv.one (At.int IntKind.i64 (↑(3:Nat):Int)))),((16:Nat),Tv.sv (Sv.one (At.int IntKind.i64 1))),((3:Nat),Tv.sv (Sv.one (At.ptr 8 0))),((2:Nat),Tv.sv (Sv.one (At.ptr 0 0)))] [((0:Nat),(0:Nat),At.bool false),((0:Nat),(1:Nat),At.words true []),((0:Nat),(2:Nat),At.int IntKind.i64 0),((0:Nat),(3:Nat),At.bool false),((0:Nat),(4:Nat),At.words true []),((0:Nat),(5:Nat),At.int IntKind.i64 0),((8:Nat),(0:Nat),At.bool v1.lo.neg),((8:Nat),(1:Nat),At.words false v1.lo.xs),((8:Nat),(2:Nat),At.int IntKind.i64 v1.lo.e),((8:Nat),(3:Nat),At.bool v1.hi.neg),((8:Nat),(4:Nat),At.words false v1.hi.xs),((8:Nat),(5:Nat),At.int IntKind.i64 v1.hi.e)] 14)))∧              (((0:Int)≤1∧(1:Int)<(↑(3:Nat):Int))∧                  (Dx.Sm 68719476736 c∧Dx.Sm 68719476736 v1.lo)∧                    br (ltI (QJ c v1.lo) 0)                       ((Dx.Sm 68719476736 c∧Dx.Sm 68719476736 v1.hi)∧                        br (ltI 0 (QJ c v1.hi)) (inR ((1:Int)+1)∧true=true∧Sg.mk [((14:Nat),Tv.sv (Sv.one (At.rows false 3 3 (At.bool b.neg :: At.words false b.xs :: At.int IntKind.i64 b.e :: ivL false (Vx.mk c d))))),((15:Nat),Tv.sv (Sv.one (At.int IntKind.i64 (↑(3:Nat):Int)))),((16:Nat),Tv.sv (Sv.one (At.int IntKind.i64 ((1:Int)+1)))),((3:Nat),Tv.sv (Sv.one (At.ptr 8 0))),((2:Nat),Tv.sv (Sv.one (At.ptr 0 0)))] [((0:Nat),(0:Nat),At.bool false),((0:Nat),(1:Nat),At.words true []),((0:Nat),(2:Nat),At.int IntKind.i64 0),((0:Nat),(3:Nat),At.bool false),((0:Nat),(4:Nat),At.words true []),((0:Nat),(5:Nat),At.int IntKind.i64 0),((8:Nat),(0:Nat),At.bool c.neg),((8:Nat),(1:Nat),At.words false c.xs),((8:Nat),(2:Nat),At.int IntKind.i64 c.e),((8:Nat),(3:Nat),At.bool c.neg),((8:Nat),(4:Nat),At.words false c.xs),((8:Nat),(5:Nat),At.int IntKind.i64 c.e)] 14=Sg.mk [((14:Nat),Tv.sv (Sv.one (At.rows false 3 3 (At.bool b.neg :: At.words false b.xs :: At.int IntKind.i64 b.e :: ivL false (Vx.mk c d))))),((15:Nat),Tv.sv (Sv.one (At.int IntKind.i64 (↑(3:Nat):Int)))),((16:Nat),Tv.sv (Sv.one (At.int IntKind.i64 2))),((3:Nat),Tv.sv (Sv.one (At.ptr 8 0))),((2:Nat),Tv.sv (Sv.one (At.ptr 0 0)))] [((0:Nat),(0:Nat),At.bool false),((0:Nat),(1:Nat),At.words true []),((0:Nat),(2:Nat),At.int IntKind.i64 0),((0:Nat),(3:Nat),At.bool false),((0:Nat),(4:Nat),At.words true []),((0:Nat),(5:Nat),At.int IntKind.i64 0),((8:Nat),(0:Nat),At.bool v2.lo.neg),((8:Nat),(1:Nat),At.words false v2.lo.xs),((8:Nat),(2:Nat),At.int IntKind.i64 v2.lo.e),((8:Nat),(3:Nat),At.bool v2.hi.neg),((8:Nat),(4:Nat),At.words false v2.hi.xs),((8:Nat),(5:Nat),At.int IntKind.i64 v2.hi.e)] 14)                           (inR ((1:Int)+1)∧true=true∧Sg.mk [((14:Nat),Tv.sv (Sv.one (At.rows false 3 3 (At.bool b.neg :: At.words false b.xs :: At.int IntKind.i64 b.e :: ivL false (Vx.mk c d))))),((15:Nat),Tv.sv (Sv.one (At.int IntKind.i64 (↑(3:Nat):Int)))),((16:Nat),Tv.sv (Sv.one (At.int IntKind.i64 ((1:Int)+1)))),((3:Nat),Tv.sv (Sv.one (At.ptr 8 0))),((2:Nat),Tv.sv (Sv.one (At.ptr 0 0)))] [((0:Nat),(0:Nat),At.bool false),((0:Nat),(1:Nat),At.words true []),((0:Nat),(2:Nat),At.int IntKind.i64 0),((0:Nat),(3:Nat),At.bool false),((0:Nat),(4:Nat),At.words true []),((0:Nat),(5:Nat),At.int IntKind.i64 0),((8:Nat),(0:Nat),At.bool c.neg),((8:Nat),(1:Nat),At.words false c.xs),((8:Nat),(2:Nat),At.int IntKind.i64 c.e),((8:Nat),(3:Nat),At.bool v1.hi.neg),((8:Nat),(4:Nat),At.words false v1.hi.xs),((8:Nat),(5:Nat),At.int IntKind.i64 v1.hi.e)] 14=Sg.mk [((14:Nat),Tv.sv (Sv.one (At.rows false 3 3 (At.bool b.neg :: At.words false b.xs :: At.int IntKind.i64 b.e :: ivL false (Vx.mk c d))))),((15:Nat),Tv.sv (Sv.one (At.int IntKind.i64 (↑(3:Nat):Int)))),((16:Nat),Tv.sv (Sv.one (At.int IntKind.i64 2))),((3:Nat),Tv.sv (Sv.one (At.ptr 8 0))),((2:Nat),Tv.sv (Sv.one (At.ptr 0 0)))] [((0:Nat),(0:Nat),At.bool false),((0:Nat),(1:Nat),At.words true []),((0:Nat),(2:Nat),At.int IntKind.i64 0),((0:Nat),(3:Nat),At.bool false),((0:Nat),(4:Nat),At.words true []),((0:Nat),(5:Nat),At.int IntKind.i64 0),((8:Nat),(0:Nat),At.bool v2.lo.neg),((8:Nat),(1:Nat),At.words false v2.lo.xs),((8:Nat),(2:Nat),At.int IntKind.i64 v2.lo.e),((8:Nat),(3:Nat),At.bool v2.hi.neg),((8:Nat),(4:Nat),At.words false v2.hi.xs),((8:Nat),(5:Nat),At.int IntKind.i64 v2.hi.e)] 14))                       ((Dx.Sm 68719476736 c∧Dx.Sm 68719476736 v1.hi)∧                        br (ltI 0 (QJ c v1.hi)) (inR ((1:Int)+1)∧true=true∧Sg.mk [((14:Nat),Tv.sv (Sv.one (At.rows false 3 3 (At.bool b.neg :: At.words false b.xs :: At.int IntKind.i64 b.e :: ivL false (Vx.mk c d))))),((15:Nat),Tv.sv (Sv.one (At.int IntKind.i64 (↑(3:Nat):Int)))),((16:Nat),Tv.sv (Sv.one (At.int IntKind.i64 ((1:Int)+1)))),((3:Nat),Tv.sv (Sv.one (At.ptr 8 0))),((2:Nat),Tv.sv (Sv.one (At.ptr 0 0)))] [((0:Nat),(0:Nat),At.bool false),((0:Nat),(1:Nat),At.words true []),((0:Nat),(2:Nat),At.int IntKind.i64 0),((0:Nat),(3:Nat),At.bool false),((0:Nat),(4:Nat),At.words true []),((0:Nat),(5:Nat),At.int IntKind.i64 0),((8:Nat),(0:Nat),At.bool v1.lo.neg),((8:Nat),(1:Nat),At.words false v1.lo.xs),((8:Nat),(2:Nat),At.int IntKind.i64 v1.lo.e),((8:Nat),(3:Nat),At.bool c.neg),((8:Nat),(4:Nat),At.words false c.xs),((8:Nat),(5:Nat),At.int IntKind.i64 c.e)] 14=Sg.mk [((14:Nat),Tv.sv (Sv.one (At.rows false 3 3 (At.bool b.neg :: At.words false b.xs :: At.int IntKind.i64 b.e :: ivL false (Vx.mk c d))))),((15:Nat),Tv.sv (Sv.one (At.int IntKind.i64 (↑(3:Nat):Int)))),((16:Nat),Tv.sv (Sv.one (At.int IntKind.i64 2))),((3:Nat),Tv.sv (Sv.one (At.ptr 8 0))),((2:Nat),Tv.sv (Sv.one (At.ptr 0 0)))] [((0:Nat),(0:Nat),At.bool false),((0:Nat),(1:Nat),At.words true []),((0:Nat),(2:Nat),At.int IntKind.i64 0),((0:Nat),(3:Nat),At.bool false),((0:Nat),(4:Nat),At.words true []),((0:Nat),(5:Nat),At.int IntKind.i64 0),((8:Nat),(0:Nat),At.bool v2.lo.neg),((8:Nat),(1:Nat),At.words false v2.lo.xs),((8:Nat),(2:Nat),At.int IntKind.i64 v2.lo.e),((8:Nat),(3:Nat),At.bool v2.hi.neg),((8:Nat),(4:Nat),At.words false v2.hi.xs),((8:Nat),(5:Nat),At.int IntKind.i64 v2.hi.e)] 14)                           (inR ((1:Int)+1)∧true=true∧Sg.mk [((14:Nat),Tv.sv (Sv.one (At.rows false 3 3 (At.bool b.neg :: At.words false b.xs :: At.int IntKind.i64 b.e :: ivL false (Vx.mk c d))))),((15:Nat),Tv.sv (Sv.one (At.int IntKind.i64 (↑(3:Nat):Int)))),((16:Nat),Tv.sv (Sv.one (At.int IntKind.i64 ((1:Int)+1)))),((3:Nat),Tv.sv (Sv.one (At.ptr 8 0))),((2:Nat),Tv.sv (Sv.one (At.ptr 0 0)))] [((0:Nat),(0:Nat),At.bool false),((0:Nat),(1:Nat),At.words true []),((0:Nat),(2:Nat),At.int IntKind.i64 0),((0:Nat),(3:Nat),At.bool false),((0:Nat),(4:Nat),At.words true []),((0:Nat),(5:Nat),At.int IntKind.i64 0),((8:Nat),(0:Nat),At.bool v1.lo.neg),((8:Nat),(1:Nat),At.words false v1.lo.xs),((8:Nat),(2:Nat),At.int IntKind.i64 v1.lo.e),((8:Nat),(3:Nat),At.bool v1.hi.neg),((8:Nat),(4:Nat),At.words false v1.hi.xs),((8:Nat),(5:Nat),At.int IntKind.i64 v1.hi.e)] 14=Sg.mk [((14:Nat),Tv.sv (Sv.one (At.rows false 3 3 (At.bool b.neg :: At.words false b.xs :: At.int IntKind.i64 b.e :: ivL false (Vx.mk c d))))),((15:Nat),Tv.sv (Sv.one (At.int IntKind.i64 (↑(3:Nat):Int)))),((16:Nat),Tv.sv (Sv.one (At.int IntKind.i64 2))),((3:Nat),Tv.sv (Sv.one (At.ptr 8 0))),((2:Nat),Tv.sv (Sv.one (At.ptr 0 0)))] [((0:Nat),(0:Nat),At.bool false),((0:Nat),(1:Nat),At.words true []),((0:Nat),(2:Nat),At.int IntKind.i64 0),((0:Nat),(3:Nat),At.bool false),((0:Nat),(4:Nat),At.words true []),((0:Nat),(5:Nat),At.int IntKind.i64 0),((8:Nat),(0:Nat),At.bool v2.lo.neg),((8:Nat),(1:Nat),At.words false v2.lo.xs),((8:Nat),(2:Nat),At.int IntKind.i64 v2.lo.e),((8:Nat),(3:Nat),At.bool v2.hi.neg),((8:Nat),(4:Nat),At.words false v2.hi.xs),((8:Nat),(5:Nat),At.int IntKind.i64 v2.hi.e)] 14)))∧                (((0:Int)≤2∧(2:Int)<(↑(3:Nat):Int))∧                    (Dx.Sm 68719476736 d∧Dx.Sm 68719476736 v2.lo)∧                      br (ltI (QJ d v2.lo) 0)                         ((Dx.Sm 68719476736 d∧Dx.Sm 68719476736 v2.hi)∧                          br (ltI 0 (QJ d v2.hi)) (inR ((2:Int)+1)∧true=true∧Sg.mk [((14:Nat),Tv.sv (Sv.one (At.rows false 3 3 (At.bool b.neg :: At.words false b.xs :: At.int IntKind.i64 b.e :: ivL false (Vx.mk c d))))),((15:Nat),Tv.sv (Sv.one (At.int IntKind.i64 (↑(3:Nat):Int)))),((16:Nat),Tv.sv (Sv.one (At.int IntKind.i64 ((2:Int)+1)))),((3:Nat),Tv.sv (Sv.one (At.ptr 8 0))),((2:Nat),Tv.sv (Sv.one (At.ptr 0 0)))] [((0:Nat),(0:Nat),At.bool false),((0:Nat),(1:Nat),At.words true []),((0:Nat),(2:Nat),At.int IntKind.i64 0),((0:Nat),(3:Nat),At.bool false),((0:Nat),(4:Nat),At.words true []),((0:Nat),(5:Nat),At.int IntKind.i64 0),((8:Nat),(0:Nat),At.bool d.neg),((8:Nat),(1:Nat),At.words false d.xs),((8:Nat),(2:Nat),At.int IntKind.i64 d.e),((8:Nat),(3:Nat),At.bool d.neg),((8:Nat),(4:Nat),At.words false d.xs),((8:Nat),(5:Nat),At.int IntKind.i64 d.e)] 14=Sg.mk [((14:Nat),Tv.sv (Sv.one (At.rows false 3 3 (At.bool b.neg :: At.words false b.xs :: At.int IntKind.i64 b.e :: ivL false (Vx.mk c d))))),((15:Nat),Tv.sv (Sv.one (At.int IntKind.i64 (↑(3:Nat):Int)))),((16:Nat),Tv.sv (Sv.one (At.int IntKind.i64 3))),((3:Nat),Tv.sv (Sv.one (At.ptr 8 0))),((2:Nat),Tv.sv (Sv.one (At.ptr 0 0)))] [((0:Nat),(0:Nat),At.bool false),((0:Nat),(1:Nat),At.words true []),((0:Nat),(2:Nat),At.int IntKind.i64 0),((0:Nat),(3:Nat),At.bool false),((0:Nat),(4:Nat),At.words true []),((0:Nat),(5:Nat),At.int IntKind.i64 0),((8:Nat),(0:Nat),At.bool v3.lo.neg),((8:Nat),(1:Nat),At.words false v3.lo.xs),((8:Nat),(2:Nat),At.int IntKind.i64 v3.lo.e),((8:Nat),(3:Nat),At.bool v3.hi.neg),((8:Nat),(4:Nat),At.words false v3.hi.xs),((8:Nat),(5:Nat),At.int IntKind.i64 v3.hi.e)] 14)                             (inR ((2:Int)+1)∧true=true∧Sg.mk [((14:Nat),Tv.sv (Sv.one (At.rows false 3 3 (At.bool b.neg :: At.words false b.xs :: At.int IntKind.i64 b.e :: ivL false (Vx.mk c d))))),((15:Nat),Tv.sv (Sv.one (At.int IntKind.i64 (↑(3:Nat):Int)))),((16:Nat),Tv.sv (Sv.one (At.int IntKind.i64 ((2:Int)+1)))),((3:Nat),Tv.sv (Sv.one (At.ptr 8 0))),((2:Nat),Tv.sv (Sv.one (At.ptr 0 0)))] [((0:Nat),(0:Nat),At.bool false),((0:Nat),(1:Nat),At.words true []),((0:Nat),(2:Nat),At.int IntKind.i64 0),((0:Nat),(3:Nat),At.bool false),((0:Nat),(4:Nat),At.words true []),((0:Nat),(5:Nat),At.int IntKind.i64 0),((8:Nat),(0:Nat),At.bool d.neg),((8:Nat),(1:Nat),At.words false d.xs),((8:Nat),(2:Nat),At.int IntKind.i64 d.e),((8:Nat),(3:Nat),At.bool v2.hi.neg),((8:Nat),(4:Nat),At.words false v2.hi.xs),((8:Nat),(5:Nat),At.int IntKind.i64 v2.hi.e)] 14=Sg.mk [((14:Nat),Tv.sv (Sv.one (At.rows false 3 3 (At.bool b.neg :: At.words false b.xs :: At.int IntKind.i64 b.e :: ivL false (Vx.mk c d))))),((15:Nat),Tv.sv (Sv.one (At.int IntKind.i64 (↑(3:Nat):Int)))),((16:Nat),Tv.sv (Sv.one (At.int IntKind.i64 3))),((3:Nat),Tv.sv (Sv.one (At.ptr 8 0))),((2:Nat),Tv.sv (Sv.one (At.ptr 0 0)))] [((0:Nat),(0:Nat),At.bool false),((0:Nat),(1:Nat),At.words true []),((0:Nat),(2:Nat),At.int IntKind.i64 0),((0:Nat),(3:Nat),At.bool false),((0:Nat),(4:Nat),At.words true []),((0:Nat),(5:Nat),At.int IntKind.i64 0),((8:Nat),(0:Nat),At.bool v3.lo.neg),((8:Nat),(1:Nat),At.words false v3.lo.xs),((8:Nat),(2:Nat),At.int IntKind.i64 v3.lo.e),((8:Nat),(3:Nat),At.bool v3.hi.neg),((8:Nat),(4:Nat),At.words false v3.hi.xs),((8:Nat),(5:Nat),At.int IntKind.i64 v3.hi.e)] 14))                         ((Dx.Sm 68719476736 d∧Dx.Sm 68719476736 v2.hi)∧                          br (ltI 0 (QJ d v2.hi)) (inR ((2:Int)+1)∧true=true∧Sg.mk [((14:Nat),Tv.sv (Sv.one (At.rows false 3 3 (At.bool b.neg :: At.words false b.xs :: At.int IntKind.i64 b.e :: ivL false (Vx.mk c d))))),((15:Nat),Tv.sv (Sv.one (At.int IntKind.i64 (↑(3:Nat):Int)))),((16:Nat),Tv.sv (Sv.one (At.int IntKind.i64 ((2:Int)+1)))),((3:Nat),Tv.sv (Sv.one (At.ptr 8 0))),((2:Nat),Tv.sv (Sv.one (At.ptr 0 0)))] [((0:Nat),(0:Nat),At.bool false),((0:Nat),(1:Nat),At.words true []),((0:Nat),(2:Nat),At.int IntKind.i64 0),((0:Nat),(3:Nat),At.bool false),((0:Nat),(4:Nat),At.words true []),((0:Nat),(5:Nat),At.int IntKind.i64 0),((8:Nat),(0:Nat),At.bool v2.lo.neg),((8:Nat),(1:Nat),At.words false v2.lo.xs),((8:Nat),(2:Nat),At.int IntKind.i64 v2.lo.e),((8:Nat),(3:Nat),At.bool d.neg),((8:Nat),(4:Nat),At.words false d.xs),((8:Nat),(5:Nat),At.int IntKind.i64 d.e)] 14=Sg.mk [((14:Nat),Tv.sv (Sv.one (At.rows false 3 3 (At.bool b.neg :: At.words false b.xs :: At.int IntKind.i64 b.e :: ivL false (Vx.mk c d))))),((15:Nat),Tv.sv (Sv.one (At.int IntKind.i64 (↑(3:Nat):Int)))),((16:Nat),Tv.sv (Sv.one (At.int IntKind.i64 3))),((3:Nat),Tv.sv (Sv.one (At.ptr 8 0))),((2:Nat),Tv.sv (Sv.one (At.ptr 0 0)))] [((0:Nat),(0:Nat),At.bool false),((0:Nat),(1:Nat),At.words true []),((0:Nat),(2:Nat),At.int IntKind.i64 0),((0:Nat),(3:Nat),At.bool false),((0:Nat),(4:Nat),At.words true []),((0:Nat),(5:Nat),At.int IntKind.i64 0),((8:Nat),(0:Nat),At.bool v3.lo.neg),((8:Nat),(1:Nat),At.words false v3.lo.xs),((8:Nat),(2:Nat),At.int IntKind.i64 v3.lo.e),((8:Nat),(3:Nat),At.bool v3.hi.neg),((8:Nat),(4:Nat),At.words false v3.hi.xs),((8:Nat),(5:Nat),At.int IntKind.i64 v3.hi.e)] 14)                             (inR ((2:Int)+1)∧true=true∧Sg.mk [((14:Nat),Tv.sv (Sv.one (At.rows false 3 3 (At.bool b.neg :: At.words false b.xs :: At.int IntKind.i64 b.e :: ivL false (Vx.mk c d))))),((15:Nat),Tv.sv (Sv.one (At.int IntKind.i64 (↑(3:Nat):Int)))),((16:Nat),Tv.sv (Sv.one (At.int IntKind.i64 ((2:Int)+1)))),((3:Nat),Tv.sv (Sv.one (At.ptr 8 0))),((2:Nat),Tv.sv (Sv.one (At.ptr 0 0)))] [((0:Nat),(0:Nat),At.bool false),((0:Nat),(1:Nat),At.words true []),((0:Nat),(2:Nat),At.int IntKind.i64 0),((0:Nat),(3:Nat),At.bool false),((0:Nat),(4:Nat),At.words true []),((0:Nat),(5:Nat),At.int IntKind.i64 0),((8:Nat),(0:Nat),At.bool v2.lo.neg),((8:Nat),(1:Nat),At.words false v2.lo.xs),((8:Nat),(2:Nat),At.int IntKind.i64 v2.lo.e),((8:Nat),(3:Nat),At.bool v2.hi.neg),((8:Nat),(4:Nat),At.words false v2.hi.xs),((8:Nat),(5:Nat),At.int IntKind.i64 v2.hi.e)] 14=Sg.mk [((14:Nat),Tv.sv (Sv.one (At.rows false 3 3 (At.bool b.neg :: At.words false b.xs :: At.int IntKind.i64 b.e :: ivL false (Vx.mk c d))))),((15:Nat),Tv.sv (Sv.one (At.int IntKind.i64 (↑(3:Nat):Int)))),((16:Nat),Tv.sv (Sv.one (At.int IntKind.i64 3))),((3:Nat),Tv.sv (Sv.one (At.ptr 8 0))),((2:Nat),Tv.sv (Sv.one (At.ptr 0 0)))] [((0:Nat),(0:Nat),At.bool false),((0:Nat),(1:Nat),At.words true []),((0:Nat),(2:Nat),At.int IntKind.i64 0),((0:Nat),(3:Nat),At.bool false),((0:Nat),(4:Nat),At.words true []),((0:Nat),(5:Nat),At.int IntKind.i64 0),((8:Nat),(0:Nat),At.bool v3.lo.neg),((8:Nat),(1:Nat),At.words false v3.lo.xs),((8:Nat),(2:Nat),At.int IntKind.i64 v3.lo.e),((8:Nat),(3:Nat),At.bool v3.hi.neg),((8:Nat),(4:Nat),At.words false v3.hi.xs),((8:Nat),(5:Nat),At.int IntKind.i64 v3.hi.e)] 14)))∧                  Q (Tv.sv (Sv.agg (ivL false v3)))∧True):=by kernel_rfl
theorem spanS_rounds{v:Vx}{d:Dx}{p:Vx→Prop}{A:Prop}{N:Nat}(A1:A)(hv:v.Sm N)(hd:d.Sm N)(hN:N≤68719476736)(h:A→p (Qp v d)){q1 q2 q3 q4:Prop}(h1:p ⟨d,d⟩→q1)(h2:p ⟨d,v.hi⟩→q2)(h3:p ⟨v.lo,d⟩→q3)(h4:p v→q4) :
    (Dx.Sm 68719476736 d∧Dx.Sm 68719476736 v.lo)∧br (ltI (QJ d v.lo) 0) ((Dx.Sm 68719476736 d∧Dx.Sm 68719476736 v.hi)∧br (ltI 0 (QJ d v.hi)) q1 q2) ((Dx.Sm 68719476736 d∧Dx.Sm 68719476736 v.hi)∧br (ltI 0 (QJ d v.hi)) q3 q4):=by
  have k:=h A1
  refine ⟨⟨hd.mono hN,hv.1.mono hN⟩,qB (fun e1=>⟨⟨hd.mono hN,hv.2.mono hN⟩,qB (fun e2=>h1 ?_) fun e2=>h2 ?_⟩) fun e1=>⟨⟨hd.mono hN,hv.2.mono hN⟩,qB (fun e2=>h3 ?_) fun e2=>h4 ?_⟩⟩
  · rwa [Qp,if_pos (qW.1 e1),if_pos (qW.1 e2)] at k
  · rwa [Qp,if_pos (qW.1 e1),if_neg (qJ.1 e2)] at k
  · rwa [Qp,if_neg (qJ.1 e1),if_pos (qW.1 e2)] at k
  · rwa [Qp,if_neg (qJ.1 e1),if_neg (qJ.1 e2)] at k
def rSpan:qU:=fun l=>match l with
  | [.one (.rows false 3 2 [.bool n1,.words false x1,.int .i64 e1,.bool n2,.words false x2,.int .i64 e2])] =>
    (some (Dx.Sm 68719476736 ⟨n1,x1,e1⟩∧Dx.Sm 68719476736 ⟨n2,x2,e2⟩),vF (Qt ⟨n1,x1,e1⟩ [⟨n2,x2,e2⟩]))
  | [.one (.rows false 3 4 [.bool n1,.words false x1,.int .i64 e1,.bool n2,.words false x2,.int .i64 e2,.bool n3,.words false x3,.int .i64 e3,.bool n4,.words false x4,.int .i64 e4])] =>
    (some (Dx.Sm 68719476736 ⟨n1,x1,e1⟩∧Dx.Sm 68719476736 ⟨n2,x2,e2⟩∧Dx.Sm 68719476736 ⟨n3,x3,e3⟩∧Dx.Sm 68719476736 ⟨n4,x4,e4⟩),vF (Qt ⟨n1,x1,e1⟩ [⟨n2,x2,e2⟩,⟨n3,x3,e3⟩,⟨n4,x4,e4⟩]))
  | _=>ZL
theorem rSpan_ok:SpecOk Tryz.prog 78 rSpan :=
  specOk_at (qO Qh sRaw4_ok) mixed Tryz.func78 rfl (by decide) 1 (by decide) fun l p t e hp=>by
    unfold rSpan at e
    split at e
    · rename_i n1 x1 e1 n2 x2 e2
      cases e
      obtain ⟨s1,s2⟩:=hp
      refine ⟨Nat.le_refl 1,_,0,(rSpan2_vc ⟨n1,x1,e1⟩ ⟨n2,x2,e2⟩ _).mpr ?_⟩
      refine ⟨⟨by omega,by omega⟩,⟨by omega,by omega⟩,rfl,⟨by omega,by omega⟩,rfl,rfl,⟨⟨by omega,by omega⟩,?_⟩,rfl,trivial⟩
      refine spanS_rounds (p:=fun v=>Qp ⟨⟨n1,x1,e1⟩,⟨n1,x1,e1⟩⟩ ⟨n2,x2,e2⟩=v) trivial ⟨s1,s1⟩ s2 (by omega) (fun _=>rfl) ?_ ?_ ?_ ?_<;>exact fun e=>⟨⟨by omega,by omega⟩,rfl,by rw [e];rfl⟩
    · rename_i n1 x1 e1 n2 x2 e2 n3 x3 e3 n4 x4 e4
      cases e
      obtain ⟨s1,s2,s3,s4⟩:=hp
      refine ⟨Nat.le_refl 1,_,0,(rSpan4_vc ⟨n1,x1,e1⟩ ⟨n2,x2,e2⟩ ⟨n3,x3,e3⟩ ⟨n4,x4,e4⟩ (Qt ⟨n1,x1,e1⟩ [⟨n2,x2,e2⟩]) (Qt ⟨n1,x1,e1⟩ [⟨n2,x2,e2⟩,⟨n3,x3,e3⟩]) (Qt ⟨n1,x1,e1⟩ [⟨n2,x2,e2⟩,⟨n3,x3,e3⟩,⟨n4,x4,e4⟩]) _).mpr ?_⟩
      have t2:Vx.Sm 68719476736 (Qt ⟨n1,x1,e1⟩ [⟨n2,x2,e2⟩]):=spanS_sm ⟨s1,s1⟩ s2
      have t3:Vx.Sm 68719476736 (Qt ⟨n1,x1,e1⟩ [⟨n2,x2,e2⟩,⟨n3,x3,e3⟩]):=spanS_sm t2 s3
      refine ⟨⟨by omega,by omega⟩,⟨by omega,by omega⟩,rfl,⟨by omega,by omega⟩,rfl,rfl,⟨⟨by omega,by omega⟩,?_⟩,⟨⟨by omega,by omega⟩,?_⟩,⟨⟨by omega,by omega⟩,?_⟩,rfl,trivial⟩
      · refine spanS_rounds (p:=fun v=>Qt ⟨n1,x1,e1⟩ [⟨n2,x2,e2⟩]=v) trivial ⟨s1,s1⟩ s2 (by omega) (fun _=>rfl) ?_ ?_ ?_ ?_<;>exact fun e=>⟨⟨by omega,by omega⟩,rfl,by rw [e];rfl⟩
      · refine spanS_rounds (p:=fun v=>Qt ⟨n1,x1,e1⟩ [⟨n2,x2,e2⟩,⟨n3,x3,e3⟩]=v) trivial t2 s3 (by omega) (fun _=>rfl) ?_ ?_ ?_ ?_<;>exact fun e=>⟨⟨by omega,by omega⟩,rfl,by rw [e];rfl⟩
      · refine spanS_rounds (p:=fun v=>Qt ⟨n1,x1,e1⟩ [⟨n2,x2,e2⟩,⟨n3,x3,e3⟩,⟨n4,x4,e4⟩]=v) trivial t3 s4 (by omega) (fun _=>rfl) ?_ ?_ ?_ ?_<;>exact fun e=>⟨⟨by omega,by omega⟩,rfl,by rw [e];rfl⟩
    · cases e;exact hp.elim
theorem mkD_p{neg:Bool}{m e:Int}:0≤(mkD neg m e).m:=qM (mkD_words _ _ _)
theorem mkS_p{s e:Int}:0≤(mkS s e).m:=mkD_p
theorem zZ{d:Dx}:0≤(qC d).m:=mkD_p
theorem YQ{d:Dx}:0≤(ZO d).m:=mkD_p
theorem absD_p{d:Dx}:0≤(absD d).m:=mkD_p
theorem shiftD_p{d:Dx}{n:Int}:0≤(zC d n).m:=mkD_p
theorem timesD_p{a b:Dx}:0≤(zQ a b).m:=mkD_p
theorem plusX_p{a b:Dx}(ha:0≤a.m)(hb:0≤b.m):0≤(plusX a b).m:=by
  unfold plusX
  split
  · exact hb
  · split
    · exact ha
    · exact mkS_p
theorem YF{a b:Dx}:0≤(Qx a b).m:=plusX_p zZ zZ
theorem Xk{a b:Dx}:0≤(Qm a b).m:=YF
theorem cutX_p{x:Dx}{p:Int}{up:Bool}(h:0≤x.m):0≤(cutX x p up).m:=by
  unfold cutX;split
  · exact h
  · exact mkD_p
theorem Y8{x:Dx}{p:Int}{up:Bool}:0≤(cutD x p up).m:=cutX_p zZ
theorem overD_p{a b:Dx}{p:Int}{up:Bool}:0≤(Qc a b p up).m:=by
  unfold Qc overX;split
  · exact Int.le_refl _
  · exact Y8
theorem timesD_sm{a b:Dx}{N M:Nat}(ha:0≤a.m)(hb:0≤b.m)(sa:a.Sm N)(sb:b.Sm M):(zQ a b).Sm (N+M+(N+M)):=by
  obtain ⟨s1,s2,s3⟩:=sa
  obtain ⟨s4,s5,s6⟩:=sb
  have:=blen_mul ha hb
  exact mkD_sm (Int.mul_nonneg ha hb) (by omega) (by omega) (by omega)
theorem shiftD_sm{d:Dx}{N M:Nat}{n:Int}(h:0≤d.m)(s:d.Sm N)(n0:-(M:Int)≤n)(n1:n≤M):(zC d n).Sm (N+(N+M)):=by
  obtain ⟨s1,s2,s3⟩:=s
  exact mkD_sm h s1 (by omega) (by omega)
theorem absD_sm{d:Dx}{N:Nat}(h:0≤d.m)(s:d.Sm N):(absD d).Sm (N+N):=mkD_sm h s.1 s.2.1 s.2.2
theorem blen_natAbs_add{X Y:Int}{N:Nat}(h1:blen (X.natAbs:Int)≤N)(h2:blen (Y.natAbs:Int)≤N):blen ((X+Y).natAbs:Int)≤N+1:=by
  refine QW ?_
  have e1:=Q5 (X.natAbs:Int)
  have e2:=Q5 (Y.natAbs:Int)
  have f1:(2:Int)^blen (X.natAbs:Int)≤2^N:=Qf h1
  have f2:(2:Int)^blen (Y.natAbs:Int)≤2^N:=Qf h2
  rw [Int.pow_succ];omega
theorem mkS_sm{s e:Int}{N M:Nat}(hb:blen (s.natAbs:Int)≤N)(e0:-(M:Int)≤e)(e1:e≤M):(mkS s e).Sm (N+M):=mkD_sm (by omega) hb e0 e1
theorem sm_abs{d:Dx}(h:0≤d.m)(k:Nat):((d.sm*2^k).natAbs:Int)=d.m*2^k:=by
  have:=two_pow_pos k
  have h1:0≤d.m*2^k:=Int.mul_nonneg h (by omega)
  unfold Dx.sm;rw [sm_mul];split<;>omega
theorem plusX_sm{x y:Dx}{N:Nat}(hx:0≤x.m)(hy:0≤y.m)(sx:x.Sm N)(sy:y.Sm N):(plusX x y).Sm (3*N+1+N):=by
  unfold plusX
  split
  · exact sy.mono (by omega)
  · split
    · exact sx.mono (by omega)
    · obtain ⟨s1,s2,s3⟩:=sx
      obtain ⟨s4,s5,s6⟩:=sy
      refine mkS_sm (blen_natAbs_add ?_ ?_) (by omega) (by omega)
      · rw [sm_abs hx,Ql (by omega)];omega
      · rw [sm_abs hy,Ql (by omega)];omega
theorem Xw{x y:Dx}{N:Nat}(hx:0≤x.m)(hy:0≤y.m)(sx:x.Sm N)(sy:y.Sm N):(Qx x y).Sm (8*N+1) :=
  (plusX_sm zZ zZ (ZM hx sx) (ZM hy sy)).mono (by omega)
theorem lessD_sm{x y:Dx}{N:Nat}(hx:0≤x.m)(hy:0≤y.m)(sx:x.Sm N)(sy:y.Sm N):(Qm x y).Sm (16*N+1) :=
  (Xw hx YQ (sx.mono (show N≤N+N by omega)) (Yd sy hy)).mono (by omega)
theorem cutX_sm{x:Dx}{N:Nat}{p:Int}{up:Bool}(hx:0≤x.m)(sx:x.Sm N)(hp:0≤p):(cutX x p up).Sm (3*N+1):=by
  unfold cutX
  split
  · exact sx.mono (by omega)
  · obtain ⟨s1,s2,s3⟩:=sx
    have q0:0≤x.m/2^((blen x.m:Int)-p).toNat:=Int.ediv_nonneg hx (Int.le_of_lt (two_pow_pos _))
    have q1:=ZK (m:=x.m/2^((blen x.m:Int)-p).toNat) (n:=x.m) (Int.ediv_le_self _ hx)
    refine (mkD_sm (N:=N+1) (M:=N+N) ?_ ?_ (by omega) (by omega)).mono (by omega)
    · split<;>omega
    · have:=Q5 (x.m/2^((blen x.m:Int)-p).toNat)
      have f1:(2:Int)^blen (x.m/2^((blen x.m:Int)-p).toNat)≤2^N:=Qf (by omega)
      have f2:=two_pow_pos N
      refine QW ?_
      rw [Int.pow_succ];split<;>omega
theorem cutD_sm{x:Dx}{N:Nat}{p:Int}{up:Bool}(hx:0≤x.m)(sx:x.Sm N)(hp:0≤p):(cutD x p up).Sm (6*N+1):=(cutX_sm zZ (ZM hx sx) hp).mono (by omega)
theorem overD_sm{a b:Dx}{N:Nat}{p:Int}{up:Bool}(ha:0≤a.m)(hb:0≤b.m)(sa:a.Sm N)(sb:b.Sm N)(p0:0≤p)(p1:p≤N):(Qc a b p up).Sm (100*N+100):=by
  unfold Qc overX
  have m1:=zZ (d:=a)
  have m2:=zZ (d:=b)
  obtain ⟨s1,s2,s3⟩:=ZM ha sa
  obtain ⟨s4,s5,s6⟩:=ZM hb sb
  generalize qC a=x at *
  generalize qC b=y at *
  split
  · exact ⟨by show blen 0≤_;simp [blen],by show _≤(0:Int);omega,by show (0:Int)≤_;omega⟩
  · rename_i hx0
    generalize hk:max (p+2+(blen y.m:Int)-(blen x.m:Int)) 0=k
    have k0:0≤k:=by omega
    have hM:0≤x.m*2^k.toNat:=Int.mul_nonneg m1 (by have:=two_pow_pos k.toNat;omega)
    have hMb:blen (x.m*2^k.toNat)≤5*N+2:=by rw [Ql (by omega)];omega
    have hQ:0≤x.m*2^k.toNat/y.m:=Int.ediv_nonneg hM m2
    have hQb:=ZK (m:=x.m*2^k.toNat/y.m) (n:=x.m*2^k.toNat) (Int.ediv_le_self _ hM)
    obtain ⟨t1,t2⟩:=sticky_blen (b:=decide (x.m*2^k.toNat % y.m≠0)) hQ
    exact (cutD_sm (N:=13*N+10) mkD_p ((mkD_sm (N:=5*N+3) (M:=7*N+3) t1 (by omega) (by omega) (by omega)).mono (by omega)) p0).mono (by omega)
def Vx.P(v:Vx):Prop:=0≤v.lo.m∧0≤v.hi.m
theorem Vx.Sm.mono{N M:Nat}{v:Vx}(h:v.Sm N)(k:N≤M):v.Sm M:=⟨h.1.mono k,h.2.mono k⟩
theorem Vx.Wf.p{v:Vx}(h:v.Wf):v.P:=⟨h.1.m0,h.2.m0⟩
def qD(d:Dx):Vx:=⟨qC d,qC d⟩
def qV(v:Vx)(p:Int):Vx:=⟨cutD v.lo p false,cutD v.hi p true⟩
def ZF(v:Vx):Vx:=⟨ZO v.hi,ZO v.lo⟩
def zE(v:Vx)(n:Int):Vx:=⟨zC v.lo n,zC v.hi n⟩
def qT(v:Vx):Bool:=v.lo.fitsB && (v.hi.fitsB && decide (QJ v.lo v.hi≤0))
def ZP(v:Vx):Bool:=decide (v.lo.sgn≤0) && decide (0≤v.hi.sgn)
def sumV(v u:Vx):Vx:=⟨Qx v.lo u.lo,Qx v.hi u.hi⟩
def plusV(v u:Vx)(p:Int):Vx:=qV (sumV v u) p
def lessV(v u:Vx)(p:Int):Vx:=plusV v (ZF u) p
def prodV(v u:Vx):Vx:=Qt (zQ v.lo u.lo) [zQ v.lo u.hi,zQ v.hi u.lo,zQ v.hi u.hi]
def qK(v u:Vx)(p:Int):Vx:=qV (prodV v u) p
def quoV(v u:Vx)(p:Int)(up:Bool):Vx:=Qt (Qc v.lo u.lo p up) [Qc v.lo u.hi p up,Qc v.hi u.lo p up,Qc v.hi u.hi p up]
def Zx(v u:Vx)(p:Int):Vx:=⟨(quoV v u p false).lo,(quoV v u p true).hi⟩
theorem spanS_p{v:Vx}{d:Dx}(h:v.P)(k:0≤d.m):(Qp v d).P:=by
  unfold Qp
  constructor
  · show 0≤Dx.m (if _ then _ else _);split<;>first | exact k | exact h.1
  · show 0≤Dx.m (if _ then _ else _);split<;>first | exact k | exact h.2
theorem span4_p{a b c d:Dx}(ha:0≤a.m)(hb:0≤b.m)(hc:0≤c.m)(hd:0≤d.m):(Qt a [b,c,d]).P:=spanS_p (spanS_p (spanS_p ⟨ha,ha⟩ hb) hc) hd
theorem span4_sm{a b c d:Dx}{N:Nat}(ha:a.Sm N)(hb:b.Sm N)(hc:c.Sm N)(hd:d.Sm N):(Qt a [b,c,d]).Sm N:=spanS_sm (spanS_sm (spanS_sm ⟨ha,ha⟩ hb) hc) hd
theorem prodV_p(v u:Vx):(prodV v u).P:=span4_p timesD_p timesD_p timesD_p timesD_p
theorem prodV_sm{v u:Vx}{N:Nat}(hv:v.P)(hu:u.P)(sv:v.Sm N)(su:u.Sm N):(prodV v u).Sm (N+N+(N+N)) :=
  span4_sm (timesD_sm hv.1 hu.1 sv.1 su.1) (timesD_sm hv.1 hu.2 sv.1 su.2) (timesD_sm hv.2 hu.1 sv.2 su.1) (timesD_sm hv.2 hu.2 sv.2 su.2)
def sRaw5:List (FuncId×qU):=[(78,rSpan)] ++ sRaw4
theorem sRaw5_ok:SpecsOk Tryz.prog sRaw5:=⟨rSpan_ok,sRaw4_ok⟩
def eB(N:Int)(d:Dx):Prop:=-N≤d.e∧d.e≤N
def rPoint:qU:=qF [.d] fun (d:Dx)=>(some (eB 4611686018427387904 d),vT (qD d))
theorem rPoint_vc(d:Dx)(Q:Tv→Prop):qH ⟨tys,sRaw5⟩ (fun _=>none) 0 Tryz.f140 [.agg (dyL false d)] Q=(((-4611686018427387904:Int)≤d.e∧d.e≤4611686018427387904)∧((-4611686018427387904:Int)≤d.e∧d.e≤4611686018427387904)∧true=true∧Q (Tv.sv (Sv.agg (ivL true (Vx.mk (qC d) (qC d)))))):=by kernel_rfl
theorem rPoint_ok:SpecOk Tryz.prog 140 rPoint :=
  qG (qO Qh sRaw5_ok) mixed Tryz.func140 rfl (by decide) (by decide) fun (d:Dx) _ hp=>⟨fun _=>none,0,(rPoint_vc d _).mpr ⟨hp,hp,rfl,rfl⟩⟩
def rTrim:qU:=qF [.v,.i .i64] fun (v:Vx) (p:Int)=>(some (v.Sm 34359738368∧0≤p∧p≤1099511627776),vT (qV v p))
theorem rTrim_vc(v:Vx)(p:Int)(Q:Tv→Prop):qH ⟨tys,sRaw5⟩ (fun _=>none) 0 Tryz.f47 [.agg (ivL false v),.one (.int .i64 p)] Q=((Dx.Sm 34359738368 v.lo∧(0:Int)≤p∧p≤1099511627776)∧(Dx.Sm 34359738368 v.hi∧(0:Int)≤p∧p≤1099511627776)∧true=true∧Q (Tv.sv (Sv.agg (ivL true (Vx.mk (cutD v.lo p false) (cutD v.hi p true)))))):=by kernel_rfl
theorem rTrim_ok:SpecOk Tryz.prog 47 rTrim :=
  qG (qO Qh sRaw5_ok) mixed Tryz.func47 rfl (by decide) (by decide) fun (v:Vx) _ (p:Int) _ hp=>⟨fun _=>none,0,(rTrim_vc v p _).mpr ⟨⟨hp.1.1,hp.2⟩,⟨hp.1.2,hp.2⟩,rfl,rfl⟩⟩
def rTurn:qU:=qF [.v] fun (v:Vx)=>(some (eB 4611686018427387904 v.lo∧eB 4611686018427387904 v.hi),vT (ZF v))
theorem rTurn_vc(v:Vx)(Q:Tv→Prop):qH ⟨tys,sRaw5⟩ (fun _=>none) 0 Tryz.f118 [.agg (ivL false v)] Q=(((-4611686018427387904:Int)≤v.hi.e∧v.hi.e≤4611686018427387904)∧((-4611686018427387904:Int)≤v.lo.e∧v.lo.e≤4611686018427387904)∧true=true∧Q (Tv.sv (Sv.agg (ivL true (Vx.mk (ZO v.hi) (ZO v.lo)))))):=by kernel_rfl
theorem rTurn_ok:SpecOk Tryz.prog 118 rTurn :=
  qG (qO Qh sRaw5_ok) mixed Tryz.func118 rfl (by decide) (by decide) fun (v:Vx) _ hp=>⟨fun _=>none,0,(rTurn_vc v _).mpr ⟨hp.2,hp.1,rfl,rfl⟩⟩
def rScale:qU:=qF [.v,.i .i64] fun (v:Vx) (n:Int)=>(some (eB 2305843009213693952 v.lo∧eB 2305843009213693952 v.hi∧-2305843009213693952≤n∧n≤2305843009213693952),vT (zE v n))
theorem rScale_vc(v:Vx)(n:Int)(Q:Tv→Prop):qH ⟨tys,sRaw5⟩ (fun _=>none) 0 Tryz.f139 [.agg (ivL false v),.one (.int .i64 n)] Q=(((-2305843009213693952:Int)≤v.lo.e∧v.lo.e≤2305843009213693952∧(-2305843009213693952:Int)≤n∧n≤2305843009213693952)∧((-2305843009213693952:Int)≤v.hi.e∧v.hi.e≤2305843009213693952∧(-2305843009213693952:Int)≤n∧n≤2305843009213693952)∧true=true∧Q (Tv.sv (Sv.agg (ivL true (Vx.mk (zC v.lo n) (zC v.hi n)))))):=by kernel_rfl
theorem rScale_ok:SpecOk Tryz.prog 139 rScale :=
  qG (qO Qh sRaw5_ok) mixed Tryz.func139 rfl (by decide) (by decide) fun (v:Vx) _ (n:Int) _ hp=>⟨fun _=>none,0,by
    obtain ⟨⟨h1,h2⟩,⟨h3,h4⟩,h5,h6⟩:eB 2305843009213693952 v.lo∧eB 2305843009213693952 v.hi∧-2305843009213693952≤n∧n≤2305843009213693952:=hp
    exact (rScale_vc v n _).mpr ⟨⟨h1,h2,h5,h6⟩,⟨h3,h4,h5,h6⟩,rfl,rfl⟩⟩
theorem ZQ{d:Dx}(h:d.fitsB=true):d.Sm 65536:=by
  unfold Dx.fitsB Yr at h
  simp at h
  obtain ⟨⟨h1,h2⟩,h3⟩:=h
  refine ⟨?_,by omega,by omega⟩
  by_cases hp:0<d.m
  · have:=blen_last hp
    have h2:=(Yz d.m).nth ((ws d.m).length-1)
    have hb:blen (nth (ws d.m) ((ws d.m).length-1))≤64:=QW (by have:=h2.2;simp at this ⊢;omega)
    omega
  · have:blen d.m≤0:=QW (by show d.m<2^0;omega)
    omega
def rRight:qU:=qF [.v] fun (v:Vx)=>(none,bT (qT v))
theorem rRight_vc(v:Vx)(Q:Tv→Prop):qH ⟨tys,sRaw5⟩ (fun _=>none) 0 Tryz.f110 [.agg (ivL false v)] Q=(br (Dx.fitsB v.lo) (br (Dx.fitsB v.hi) ((Dx.Sm 68719476736 v.lo∧Dx.Sm 68719476736 v.hi)∧Q (Tv.sv (Sv.one (At.bool (leI (QJ v.lo v.hi) 0))))) (Q (Tv.sv (Sv.one (At.bool false))))) (Q (Tv.sv (Sv.one (At.bool false))))):=by kernel_rfl
theorem rRight_ok:SpecOk Tryz.prog 110 rRight :=
  qG (qO Qh sRaw5_ok) mixed Tryz.func110 rfl (by decide) (by decide) fun (v:Vx) _ _=>⟨fun _=>none,0,by
    refine (rRight_vc v _).mpr (qB (fun h1=>qB (fun h2=>⟨⟨(ZQ h1).mono (by omega),(ZQ h2).mono (by omega)⟩,?_⟩) fun h2=>?_) fun h1=>?_)
    · show _=bT (qT v);rw [qT,h1,h2];rfl
    · show _=bT (qT v);rw [qT,h1,h2];rfl
    · show _=bT (qT v);rw [qT,h1];rfl⟩
def rHolds0:qU:=qF [.v] fun (v:Vx)=>(none,bT (ZP v))
theorem rHolds0_vc(v:Vx)(Q:Tv→Prop):qH ⟨tys,sRaw5⟩ (fun _=>none) 0 Tryz.f150 [.agg (ivL false v)] Q=(br (leI (Dx.sgn v.lo) 0) (Q (Tv.sv (Sv.one (At.bool (leI 0 (Dx.sgn v.hi)))))) (Q (Tv.sv (Sv.one (At.bool false))))):=by kernel_rfl
theorem rHolds0_ok:SpecOk Tryz.prog 150 rHolds0 :=
  qG (qO Qh sRaw5_ok) mixed Tryz.func150 rfl (by decide) (by decide) fun (v:Vx) _ _=>⟨fun _=>none,0,by
    refine (rHolds0_vc v _).mpr (qB (fun h1=>?_) fun h1=>?_)
    · show _=bT (ZP v);rw [ZP,show decide (v.lo.sgn≤0)=true from h1];rfl
    · show _=bT (ZP v);rw [ZP,show decide (v.lo.sgn≤0)=false from h1];rfl⟩
def rDiv:qU:=qF [.v,.v,.i .i64] fun (v:Vx) (u:Vx) (p:Int)=>(some (v.Sm 67108864∧u.Sm 67108864∧u.lo.m≠0∧u.hi.m≠0∧0≤p∧p≤67108864),vF (Zx v u p))
theorem rDiv_vc(v u:Vx)(p:Int)(Q:Tv→Prop):qH ⟨tys,sRaw5⟩ (fun _=>none) 0 Tryz.f46 [.agg (ivL false v),.agg (ivL false u),.one (.int .i64 p)] Q=((Dx.Sm 67108864 v.lo∧Dx.Sm 67108864 u.lo∧Dx.m u.lo≠0∧(0:Int)≤p∧p≤67108864)∧(Dx.Sm 67108864 v.lo∧Dx.Sm 67108864 u.hi∧Dx.m u.hi≠0∧(0:Int)≤p∧p≤67108864)∧(Dx.Sm 67108864 v.hi∧Dx.Sm 67108864 u.lo∧Dx.m u.lo≠0∧(0:Int)≤p∧p≤67108864)∧(Dx.Sm 67108864 v.hi∧Dx.Sm 67108864 u.hi∧Dx.m u.hi≠0∧(0:Int)≤p∧p≤67108864)∧(Dx.Sm 68719476736 (Qc v.lo u.lo p false)∧Dx.Sm 68719476736 (Qc v.lo u.hi p false)∧Dx.Sm 68719476736 (Qc v.hi u.lo p false)∧Dx.Sm 68719476736 (Qc v.hi u.hi p false))∧true=true∧(Dx.Sm 67108864 v.lo∧Dx.Sm 67108864 u.lo∧Dx.m u.lo≠0∧(0:Int)≤p∧p≤67108864)∧(Dx.Sm 67108864 v.lo∧Dx.Sm 67108864 u.hi∧Dx.m u.hi≠0∧(0:Int)≤p∧p≤67108864)∧(Dx.Sm 67108864 v.hi∧Dx.Sm 67108864 u.lo∧Dx.m u.lo≠0∧(0:Int)≤p∧p≤67108864)∧(Dx.Sm 67108864 v.hi∧Dx.Sm 67108864 u.hi∧Dx.m u.hi≠0∧(0:Int)≤p∧p≤67108864)∧(Dx.Sm 68719476736 (Qc v.lo u.lo p true)∧Dx.Sm 68719476736 (Qc v.lo u.hi p true)∧Dx.Sm 68719476736 (Qc v.hi u.lo p true)∧Dx.Sm 68719476736 (Qc v.hi u.hi p true))∧true=true∧Q (Tv.sv (Sv.agg (ivL false (Vx.mk (Qt (Qc v.lo u.lo p false) [Qc v.lo u.hi p false,Qc v.hi u.lo p false,Qc v.hi u.hi p false]).lo (Qt (Qc v.lo u.lo p true) [Qc v.lo u.hi p true,Qc v.hi u.lo p true,Qc v.hi u.hi p true]).hi))))):=by kernel_rfl
theorem rDiv_ok:SpecOk Tryz.prog 46 rDiv :=
  qG (qO Qh sRaw5_ok) mixed Tryz.func46 rfl (by decide) (by decide) fun (v:Vx) hv (u:Vx) hu (p:Int) _ hp=>⟨fun _=>none,0,by
    obtain ⟨⟨a1,a2⟩,⟨b1,b2⟩,z1,z2,p0,p1⟩:v.Sm 67108864∧u.Sm 67108864∧u.lo.m≠0∧u.hi.m≠0∧0≤p∧p≤67108864:=hp
    have v1:=Dx.Wf.m0 hv.1
    have v2:=Dx.Wf.m0 hv.2
    have u1:=Dx.Wf.m0 hu.1
    have u2:=Dx.Wf.m0 hu.2
    have sz:∀ {a b:Dx} {up:Bool},0≤a.m→0≤b.m→a.Sm 67108864→b.Sm 67108864→(Qc a b p up).Sm 68719476736:=fun ha hb sa sb=>(overD_sm ha hb sa sb p0 p1).mono (by omega)
    refine (rDiv_vc v u p _).mpr ⟨⟨a1,b1,z1,p0,p1⟩,⟨a1,b2,z2,p0,p1⟩,⟨a2,b1,z1,p0,p1⟩,⟨a2,b2,z2,p0,p1⟩,⟨sz v1 u1 a1 b1,sz v1 u2 a1 b2,sz v2 u1 a2 b1,sz v2 u2 a2 b2⟩,rfl,⟨a1,b1,z1,p0,p1⟩,⟨a1,b2,z2,p0,p1⟩,⟨a2,b1,z1,p0,p1⟩,⟨a2,b2,z2,p0,p1⟩,⟨sz v1 u1 a1 b1,sz v1 u2 a1 b2,sz v2 u1 a2 b1,sz v2 u2 a2 b2⟩,rfl,rfl⟩⟩
def sRaw6:List (FuncId×qU):=[(140,rPoint),(47,rTrim),(118,rTurn),(139,rScale),(110,rRight),(150,rHolds0),(46,rDiv)] ++ sRaw5
theorem sRaw6_ok:SpecsOk Tryz.prog sRaw6:=⟨rPoint_ok,rTrim_ok,rTurn_ok,rScale_ok,rRight_ok,rHolds0_ok,rDiv_ok,sRaw5_ok⟩
def rPlus:qU:=qF [.v,.v,.i .i64] fun (v:Vx) (u:Vx) (p:Int)=>(some (v.Sm 268435456∧u.Sm 268435456∧0≤p∧p≤1099511627776),vT (plusV v u p))
theorem rPlus_vc(v u:Vx)(p:Int)(Q:Tv→Prop):qH ⟨tys,sRaw6⟩ (fun _=>none) 0 Tryz.f178 [.agg (ivL false v),.agg (ivL false u),.one (.int .i64 p)] Q=((Dx.Sm 68719476736 v.lo∧Dx.Sm 68719476736 u.lo)∧(Dx.Sm 68719476736 v.hi∧Dx.Sm 68719476736 u.hi)∧(Vx.Sm 34359738368 (Vx.mk (Qx v.lo u.lo) (Qx v.hi u.hi))∧(0:Int)≤p∧p≤1099511627776)∧true=true∧Q (Tv.sv (Sv.agg (ivL true (qV (Vx.mk (Qx v.lo u.lo) (Qx v.hi u.hi)) p))))):=by kernel_rfl
theorem rPlus_ok:SpecOk Tryz.prog 178 rPlus :=
  qG (qO Qh sRaw6_ok) mixed Tryz.func178 rfl (by decide) (by decide) fun (v:Vx) hv (u:Vx) hu (p:Int) _ hp=>⟨fun _=>none,0,by
    obtain ⟨⟨a1,a2⟩,⟨b1,b2⟩,p0,p1⟩:v.Sm 268435456∧u.Sm 268435456∧0≤p∧p≤1099511627776:=hp
    have s1:=Xw (Dx.Wf.m0 hv.1) (Dx.Wf.m0 hu.1) a1 b1
    have s2:=Xw (Dx.Wf.m0 hv.2) (Dx.Wf.m0 hu.2) a2 b2
    exact (rPlus_vc v u p _).mpr ⟨⟨a1.mono (by omega),b1.mono (by omega)⟩,⟨a2.mono (by omega),b2.mono (by omega)⟩,⟨⟨s1.mono (by omega),s2.mono (by omega)⟩,p0,p1⟩,rfl,rfl⟩⟩
def sRaw7:List (FuncId×qU):=(178,rPlus) :: sRaw6
theorem sRaw7_ok:SpecsOk Tryz.prog sRaw7:=⟨rPlus_ok,sRaw6_ok⟩
def rLess:qU:=qF [.v,.v,.i .i64] fun (v:Vx) (u:Vx) (p:Int)=>(some (v.Sm 134217728∧u.Sm 134217728∧0≤p∧p≤1099511627776),vT (lessV v u p))
theorem rLess_vc(v u:Vx)(p:Int)(Q:Tv→Prop):qH ⟨tys,sRaw7⟩ (fun _=>none) 0 Tryz.f142 [.agg (ivL false v),.agg (ivL false u),.one (.int .i64 p)] Q=((eB 4611686018427387904 u.lo∧eB 4611686018427387904 u.hi)∧(Vx.Sm 268435456 v∧Vx.Sm 268435456 (ZF u)∧(0:Int)≤p∧p≤1099511627776)∧true=true∧Q (Tv.sv (Sv.agg (ivL true (plusV v (ZF u) p))))):=by kernel_rfl
theorem Dx.Sm.eB{N:Nat}{M:Int}{d:Dx}(h:d.Sm N)(k:(N:Int)≤M):eB M d:=⟨by have:=h.2.1;omega,by have:=h.2.2;omega⟩
theorem rLess_ok:SpecOk Tryz.prog 142 rLess :=
  qG (qO Qh sRaw7_ok) mixed Tryz.func142 rfl (by decide) (by decide) fun (v:Vx) hv (u:Vx) hu (p:Int) _ hp=>⟨fun _=>none,0,by
    obtain ⟨⟨a1,a2⟩,⟨b1,b2⟩,p0,p1⟩:v.Sm 134217728∧u.Sm 134217728∧0≤p∧p≤1099511627776:=hp
    exact (rLess_vc v u p _).mpr ⟨⟨b1.eB (by omega),b2.eB (by omega)⟩,⟨⟨a1.mono (by omega),a2.mono (by omega)⟩,⟨(Yd b2 (Dx.Wf.m0 hu.2)).mono (by omega),(Yd b1 (Dx.Wf.m0 hu.1)).mono (by omega)⟩,p0,p1⟩,rfl,rfl⟩⟩
def rTimes:qU:=qF [.v,.v,.i .i64] fun (v:Vx) (u:Vx) (p:Int)=>(some (v.Sm 268435456∧u.Sm 268435456∧0≤p∧p≤1099511627776),vT (qK v u p))
theorem rTimes_vc(v u:Vx)(p:Int)(Q:Tv→Prop):qH ⟨tys,sRaw7⟩ (fun _=>none) 0 Tryz.f143 [.agg (ivL false v),.agg (ivL false u),.one (.int .i64 p)] Q=((Dx.Sm 274877906944 v.lo∧Dx.Sm 274877906944 u.lo)∧(Dx.Sm 274877906944 v.lo∧Dx.Sm 274877906944 u.hi)∧(Dx.Sm 274877906944 v.hi∧Dx.Sm 274877906944 u.lo)∧(Dx.Sm 274877906944 v.hi∧Dx.Sm 274877906944 u.hi)∧(Dx.Sm 68719476736 (zQ v.lo u.lo)∧Dx.Sm 68719476736 (zQ v.lo u.hi)∧Dx.Sm 68719476736 (zQ v.hi u.lo)∧Dx.Sm 68719476736 (zQ v.hi u.hi))∧(Vx.Sm 34359738368 (Qt (zQ v.lo u.lo) [zQ v.lo u.hi,zQ v.hi u.lo,zQ v.hi u.hi])∧(0:Int)≤p∧p≤1099511627776)∧true=true∧Q (Tv.sv (Sv.agg (ivL true (qV (Qt (zQ v.lo u.lo) [zQ v.lo u.hi,zQ v.hi u.lo,zQ v.hi u.hi]) p))))):=by kernel_rfl
theorem rTimes_ok:SpecOk Tryz.prog 143 rTimes :=
  qG (qO Qh sRaw7_ok) mixed Tryz.func143 rfl (by decide) (by decide) fun (v:Vx) hv (u:Vx) hu (p:Int) _ hp=>⟨fun _=>none,0,by
    obtain ⟨sv,su,p0,p1⟩:v.Sm 268435456∧u.Sm 268435456∧0≤p∧p≤1099511627776:=hp
    have v1:=Dx.Wf.m0 hv.1
    have v2:=Dx.Wf.m0 hv.2
    have u1:=Dx.Wf.m0 hu.1
    have u2:=Dx.Wf.m0 hu.2
    have sz:∀ {a b:Dx},0≤a.m→0≤b.m→a.Sm 268435456→b.Sm 268435456→(zQ a b).Sm 68719476736:=fun ha hb sa sb=>(timesD_sm ha hb sa sb).mono (by omega)
    have sm:∀ {a:Dx},a.Sm 268435456→a.Sm 274877906944:=fun h=>h.mono (by omega)
    exact (rTimes_vc v u p _).mpr ⟨⟨sm sv.1,sm su.1⟩,⟨sm sv.1,sm su.2⟩,⟨sm sv.2,sm su.1⟩,⟨sm sv.2,sm su.2⟩,⟨sz v1 u1 sv.1 su.1,sz v1 u2 sv.1 su.2,sz v2 u1 sv.2 su.1,sz v2 u2 sv.2 su.2⟩,⟨(prodV_sm (Vx.Wf.p hv) (Vx.Wf.p hu) sv su).mono (by omega),p0,p1⟩,rfl,rfl⟩⟩
def narrowX(w l:Dx)(p:Int):Bool :=
  decide (p≤1048576) && (decide (w.e+(blen w.m:Int)-1+p≤l.e+(blen l.m:Int)-1+1) && decide (QJ (zC w p) l≤0))
def Q7(v:Vx)(p:Int):Bool :=
  if v.lo.sgn≠v.hi.sgn then false else if v.lo.sgn=0 then true else if (Qm v.hi v.lo).zeroB then true else narrowX (Qm v.hi v.lo) (if v.lo.sgn<0 then absD v.hi else absD v.lo) p
def rNarrow:qU:=qF [.v,.i .i64] fun (v:Vx) (p:Int)=>(some (v.Sm 67108864∧0≤p),bT (Q7 v p))
theorem rNarrow_vc(v:Vx)(p:Int)(Q:Tv→Prop):qH ⟨tys,sRaw7⟩ (fun _=>none) 0 Tryz.f145 [.agg (ivL false v),.one (.int .i64 p)] Q=(br (neI (Dx.sgn v.lo) (Dx.sgn v.hi)) (Q (Tv.sv (Sv.one (At.bool false)))) (br (eqI (Dx.sgn v.lo) 0) (Q (Tv.sv (Sv.one (At.bool true)))) (((-4611686018427387904:Int)≤v.lo.e∧v.lo.e≤4611686018427387904)∧br (ltI (Dx.sgn v.lo) 0) (((-4611686018427387904:Int)≤v.hi.e∧v.hi.e≤4611686018427387904)∧(Dx.Sm 34359738368 v.hi∧Dx.Sm 34359738368 v.lo)∧br (Dx.zeroB (Qm v.hi v.lo)) (Q (Tv.sv (Sv.one (At.bool true)))) (br (leI p 1048576) (((-2305843009213693952:Int)≤(Qm v.hi v.lo).e∧(Qm v.hi v.lo).e≤2305843009213693952)∧inR ((Qm v.hi v.lo).e+(↑(blen (Dx.m (Qm v.hi v.lo))):Int)-1+p)∧((-2305843009213693952:Int)≤(absD v.hi).e∧(absD v.hi).e≤2305843009213693952)∧inR ((absD v.hi).e+(↑(blen (Dx.m (absD v.hi))):Int)-1+1)∧br (leI ((Qm v.hi v.lo).e+(↑(blen (Dx.m (Qm v.hi v.lo))):Int)-1+p) ((absD v.hi).e+(↑(blen (Dx.m (absD v.hi))):Int)-1+1)) (((-2305843009213693952:Int)≤(Qm v.hi v.lo).e∧(Qm v.hi v.lo).e≤2305843009213693952∧(-2305843009213693952:Int)≤p∧p≤2305843009213693952)∧(Dx.Sm 68719476736 (zC (Qm v.hi v.lo) p)∧Dx.Sm 68719476736 (absD v.hi))∧true=true∧Q (Tv.sv (Sv.one (At.bool (leI (QJ (zC (Qm v.hi v.lo) p) (absD v.hi)) 0))))) (true=true∧Q (Tv.sv (Sv.one (At.bool false))))) (true=true∧Q (Tv.sv (Sv.one (At.bool false)))))) ((Dx.Sm 34359738368 v.hi∧Dx.Sm 34359738368 v.lo)∧br (Dx.zeroB (Qm v.hi v.lo)) (Q (Tv.sv (Sv.one (At.bool true)))) (br (leI p 1048576) (((-2305843009213693952:Int)≤(Qm v.hi v.lo).e∧(Qm v.hi v.lo).e≤2305843009213693952)∧inR ((Qm v.hi v.lo).e+(↑(blen (Dx.m (Qm v.hi v.lo))):Int)-1+p)∧((-2305843009213693952:Int)≤(absD v.lo).e∧(absD v.lo).e≤2305843009213693952)∧inR ((absD v.lo).e+(↑(blen (Dx.m (absD v.lo))):Int)-1+1)∧br (leI ((Qm v.hi v.lo).e+(↑(blen (Dx.m (Qm v.hi v.lo))):Int)-1+p) ((absD v.lo).e+(↑(blen (Dx.m (absD v.lo))):Int)-1+1)) (((-2305843009213693952:Int)≤(Qm v.hi v.lo).e∧(Qm v.hi v.lo).e≤2305843009213693952∧(-2305843009213693952:Int)≤p∧p≤2305843009213693952)∧(Dx.Sm 68719476736 (zC (Qm v.hi v.lo) p)∧Dx.Sm 68719476736 (absD v.lo))∧true=true∧Q (Tv.sv (Sv.one (At.bool (leI (QJ (zC (Qm v.hi v.lo) p) (absD v.lo)) 0))))) (true=true∧Q (Tv.sv (Sv.one (At.bool false))))) (true=true∧Q (Tv.sv (Sv.one (At.bool false))))))))):=by kernel_rfl
theorem rNarrow_part{w l:Dx}{p:Int}{r:Bool}(sw:w.Sm 4294967296)(sl:l.Sm 4294967296)(hw:0≤w.m)(p0:0≤p)(e:w.zeroB=false→r=narrowX w l p)(e0:w.zeroB=true→r=true) :
    br (Dx.zeroB w) (Tv.sv (Sv.one (At.bool true))=bT r) (br (leI p 1048576) (((-2305843009213693952:Int)≤w.e∧w.e≤(2305843009213693952:Int))∧inR (w.e+(blen w.m:Int)-1+p)∧((-2305843009213693952:Int)≤l.e∧l.e≤(2305843009213693952:Int))∧inR (l.e+(blen l.m:Int)-1+1) ∧
      br (leI (w.e+(blen w.m:Int)-1+p) (l.e+(blen l.m:Int)-1+1)) (((-2305843009213693952:Int)≤w.e∧w.e≤(2305843009213693952:Int)∧(-2305843009213693952:Int)≤p∧p≤(2305843009213693952:Int))∧(Dx.Sm 68719476736 (zC w p)∧Dx.Sm 68719476736 l)∧true=true∧Tv.sv (Sv.one (At.bool (leI (QJ (zC w p) l) 0)))=bT r) (true=true∧Tv.sv (Sv.one (At.bool false))=bT r)) (true=true∧Tv.sv (Sv.one (At.bool false))=bT r)):=by
  obtain ⟨w1,w2,w3⟩:=sw
  obtain ⟨l1,l2,l3⟩:=sl
  refine qB (fun h=>by rw [e0 h]) fun h=>?_
  rw [e h]
  unfold narrowX
  refine qB (fun h1=>?_) fun h1=>⟨rfl,by rw [decide_eq_false (Qn.1 h1)];rfl⟩
  have q:=zS.1 h1
  refine ⟨⟨by omega,by omega⟩,⟨by omega,by omega⟩,⟨by omega,by omega⟩,⟨by omega,by omega⟩,qB (fun h2=>?_) fun h2=>⟨rfl,by rw [decide_eq_false (Qn.1 h2),Bool.false_and,Bool.and_false]⟩⟩
  refine ⟨⟨by omega,by omega,by omega,by omega⟩,⟨(shiftD_sm (N:=4294967296) (M:=1048576) hw ⟨w1,w2,w3⟩ (by omega) (by omega)).mono (by omega),Dx.Sm.mono ⟨l1,l2,l3⟩ (by omega)⟩,rfl,?_⟩
  rw [decide_eq_true q,decide_eq_true (zS.1 h2)];rfl
theorem rNarrow_ok:SpecOk Tryz.prog 145 rNarrow :=
  qG (qO Qh sRaw7_ok) mixed Tryz.func145 rfl (by decide) (by decide) fun (v:Vx) hv (p:Int) _ hp=>⟨fun _=>none,0,by
    obtain ⟨⟨a1,a2⟩,p0⟩:v.Sm 67108864∧0≤p:=hp
    have v1:=Dx.Wf.m0 hv.1
    have v2:=Dx.Wf.m0 hv.2
    have sl:=lessD_sm v2 v1 a2 a1
    show qH _ _ _ _ _ (fun t=>t=bT (Q7 v p))
    refine (rNarrow_vc v p _).mpr (qB (fun h=>?_) fun h=>qB (fun h1=>?_) fun h1=>⟨⟨by have:=a1.2.1;omega,by have:=a1.2.2;omega⟩,qB (fun h2=>⟨⟨by have:=a2.2.1;omega,by have:=a2.2.2;omega⟩,⟨a2.mono (by omega),a1.mono (by omega)⟩,?_⟩) fun h2=>⟨⟨a2.mono (by omega),a1.mono (by omega)⟩,?_⟩⟩)
    · rw [Q7,if_pos (Qi.1 h)]
    · rw [Q7,if_neg (by have:=qQ.1 h;omega),if_pos (zX.1 h1)]
    · refine rNarrow_part (sl.mono (by omega)) ((absD_sm v2 a2).mono (by omega)) Xk p0 (fun h3=>?_) fun h3=>?_
      · rw [Q7,if_neg (by have:=qQ.1 h;omega),if_neg (qR.1 h1),h3,if_pos (qW.1 h2)];rfl
      · rw [Q7,if_neg (by have:=qQ.1 h;omega),if_neg (qR.1 h1),h3];rfl
    · refine rNarrow_part (sl.mono (by omega)) ((absD_sm v1 a1).mono (by omega)) Xk p0 (fun h3=>?_) fun h3=>?_
      · rw [Q7,if_neg (by have:=qQ.1 h;omega),if_neg (qR.1 h1),h3,if_neg (qJ.1 h2)];rfl
      · rw [Q7,if_neg (by have:=qQ.1 h;omega),if_neg (qR.1 h1),h3];rfl⟩
def sRaw8:List (FuncId×qU):=[(142,rLess),(143,rTimes),(145,rNarrow)] ++ sRaw7
theorem YG:SpecsOk Tryz.prog sRaw8:=⟨rLess_ok,rTimes_ok,rNarrow_ok,sRaw7_ok⟩
def fgA:At→At
  | .words _ xs=>.words false xs
  | a=>a
def fgL:List At→List At
  | []=>[]
  | a :: l=>fgA a :: fgL l
def fgS:Sv→Sv
  | .one a=>.one (fgA a)
  | .agg l=>.agg (fgL l)
def fgSs:List Sv→List Sv
  | []=>[]
  | a :: l=>fgS a :: fgSs l
def fgT:Tv→Tv
  | .sv s=>.sv (fgS s)
  | .tup l=>.tup (fgSs l)
section
variable {C:Base} {w:World}
theorem rep_fgA{v:Value}{a:At}(h:Rep C noBox w v a):Rep C noBox w v (fgA a):=by
  cases a with
  | words nw xs=>exact (rep_wf h).2
  | _=>exact h
theorem rep_fgL:∀ {vs:List Value} {l:List At},RepL C noBox w vs l→RepL C noBox w vs (fgL l)
  | [],[],_=>trivial
  | _ :: _,_ :: _,⟨h,k⟩=>⟨rep_fgA h,rep_fgL k⟩
theorem rep_fgS{v:Value}{s:Sv}(h:RepS C noBox w v s):RepS C noBox w v (fgS s):=by
  cases s with
  | one a=>exact rep_fgA h
  | agg l=>obtain ⟨vs,e,h⟩:=h;exact ⟨vs,e,rep_fgL h⟩
theorem rep_fgSs:∀ {vs:List Value} {l:List Sv},RepSs C noBox w vs l→RepSs C noBox w vs (fgSs l)
  | [],[],_=>trivial
  | _ :: _,_ :: _,⟨h,k⟩=>⟨rep_fgS h,rep_fgSs k⟩
theorem rep_fgT{v:Value}{t:Tv}(h:RepT C noBox w v t):RepT C noBox w v (fgT t):=by
  cases t with
  | sv s=>exact rep_fgS h
  | tup l=>obtain ⟨vs,e,h⟩:=h;exact ⟨vs,e,rep_fgSs h⟩
end
def wf1:At→Prop
  | .words _ xs=>WfW xs
  | _=>True
def wfL:List At→Prop
  | []=>True
  | a :: l=>wf1 a∧wfL l
def wfB:At→Prop
  | .ref cs=>wfL cs
  | .rows _ _ _ cs=>wfL cs
  | a=>wf1 a
def wfBs:List At→Prop
  | []=>True
  | a :: l=>wfB a∧wfBs l
def wfS:Sv→Prop
  | .one (.fn _ cs)=>wfBs cs
  | .one a=>wfB a
  | .agg l=>wfBs l
def wfSs:List Sv→Prop
  | []=>True
  | s :: l=>wfS s∧wfSs l
section
variable {C:Base} {w:World}
theorem rep_wf1{v:Value}{a:At}(h:Rep C noBox w v a):wf1 a:=by
  cases a with
  | words nw xs=>exact (rep_wf h).1
  | _=>exact trivial
theorem rep_wfL(f:Nat→Value):∀ (l:List At) (k:Nat),(∀ (i:Nat) a,l[i]?=some a→Rep C noBox w (f (k+i)) a)→wfL l
  | [],_,_=>trivial
  | a :: l,k,h=>⟨rep_wf1 (h 0 a rfl),rep_wfL f l (k+1) fun i x hx=>by have:=h (i+1) x hx;rwa [show k+(i+1)=k+1+i by omega] at this⟩
theorem rep_wfB{v:Value}{a:At}(h:Rep C noBox w v a):wfB a:=by
  cases h with
  | words h=>exact rep_wf1 (.words h)
  | ref vs _ _ _ h=>exact rep_wfL vs _ 0 fun i a hi=>by rw [Nat.zero_add];exact h i a hi
  | rows vs _ _ _ _ _ _ _ _ h=>exact rep_wfL vs _ 0 fun i a hi=>by rw [Nat.zero_add];exact h i a hi
  | _=>exact trivial
theorem rep_wfBs:∀ {vs:List Value} {l:List At},RepL C noBox w vs l→wfBs l
  | [],[],_=>trivial
  | _ :: _,_ :: _,⟨h,k⟩=>⟨rep_wfB h,rep_wfBs k⟩
theorem rep_wfBs':∀ {vs:List Value} {l:List At},vs.length=l.length→(∀ (i:Nat) v a,vs[i]?=some v→l[i]?=some a→Rep C noBox w v a)→wfBs l
  | [],[],_,_=>trivial
  | v :: _,a :: _,hl,h=>⟨rep_wfB (h 0 v a rfl rfl),rep_wfBs' (by simpa using hl) fun i v a hv ha=>h (i+1) v a hv ha⟩
theorem rep_wfS{v:Value}{s:Sv}(h:RepS C noBox w v s):wfS s:=by
  cases s with
  | agg l=>obtain ⟨vs,e,h⟩:=h;exact rep_wfBs h
  | one a =>
    have q:Rep C noBox w v a:=h
    clear h
    cases q with
    | fn hl k=>exact rep_wfBs' hl k
    | words k=>exact rep_wfB (.words k)
    | ref vs hg ha hc k=>exact rep_wfB (.ref vs hg ha hc k)
    | rows vs hl hn hm hg ha hX hb hc k=>exact rep_wfB (.rows vs hl hn hm hg ha hX hb hc k)
    | _=>exact trivial
theorem rep_wfSs:∀ {vs:List Value} {l:List Sv},RepSs C noBox w vs l→wfSs l
  | [],[],_=>trivial
  | _ :: _,_ :: _,⟨h,k⟩=>⟨rep_wfS h,rep_wfSs k⟩
end
theorem specOk_pat {P : Program} {E : Env} (hE : EnvOk P E) (hm : P.follows .mixedOrders = true) {f : FuncId} {fn : Func} {c : Code} (hf : P.funcs[f]? = some fn) (hb : fn.body = some c) (hname : (fn.name == "runtime.NumGoroutine") = false) {sp : qU} (k : Nat) (hk : k ≤ fn.ntmps)
    (h:∀ l p t,wfSs l→sp l=(p,t)→(match p with | none=>True | some p=>p)→l.length≤k∧∃ inv fuel,qH E inv fuel fn l (fun x=>x=t∨fgT x=t)):SpecOk P f sp:=by
  refine ⟨⟨fn,c,hf,hname,hb⟩,fun C w vs l hC hX hT hvs hp=>?_⟩
  obtain ⟨hl,inv,fuel,h⟩:=h l (sp l).1 (sp l).2 (rep_wfSs hvs) rfl hp
  refine (execF_ok hE hm hf h hC hX hT hvs (by rw [hvs.length];omega)).mono ?_
  rintro e w' ⟨v,t,rfl,h0,h1,h2⟩
  rcases h0 with rfl | h0
  · exact ⟨v,rfl,h1,h2⟩
  · exact ⟨v,rfl,h0 ▸ rep_fgT h1,h2⟩
def VcKW(E:Env)(fn:Func):(ks:List Ak)→AFun ks→(List Sv→List Sv)→Prop
  | [],g,acc=>(match g.1 with | none=>True | some p=>p)→∃ inv fuel,qH E inv fuel fn (acc []) (fun t=>t=g.2∨fgT t=g.2)
  | k :: ks,g,acc=>∀ x:k.T,k.wf x→VcKW E fn ks (g x) (fun r=>acc (k.enc x :: r))
theorem zA {P : Program} {E : Env} (hE : EnvOk P E) (hm : P.follows .mixedOrders = true) {f : FuncId} {fn : Func} {c : Code} (hf : P.funcs[f]? = some fn) (hb : fn.body = some c) (hname : (fn.name == "runtime.NumGoroutine") = false) {ks : List Ak} {g : AFun ks} (hk : ks.length ≤ fn.ntmps)
    (h:VcKW E fn ks g id):SpecOk P f (qF ks g):=by
  refine ⟨⟨fn,c,hf,hname,hb⟩,fun C w vs l hC hX hT hvs hp=>?_⟩
  have key:∀ (ks:List Ak) (g:AFun ks) (acc:List Sv→List Sv) (l:List Sv) (vs:List Value),VcKW E fn ks g acc→RepSs C noBox w vs l→(match (qF ks g l).1 with | none=>True | some p=>p) →
      l.length=ks.length∧∃ l',RepSs C noBox w vs l'∧l'.length=ks.length∧∃ inv fuel,qH E inv fuel fn (acc l') (fun t=>t=(qF ks g l).2∨fgT t=(qF ks g l).2):=by
    intro ks
    induction ks with
    | nil =>
      intro g acc l vs h hr hp
      cases l with
      | nil=>exact ⟨rfl,[],hr,rfl,h hp⟩
      | cons=>exact hp.elim
    | cons k ks ih =>
      intro g acc l vs h hr hp
      cases l with
      | nil=>exact hp.elim
      | cons s l =>
        cases vs with
        | nil=>exact hr.elim
        | cons v vs =>
          have e:qF (k :: ks) g (s :: l)=(match k.dec s with | some x=>qF ks (g x) l | none=>ZL):=rfl
          rw [e] at hp ⊢
          cases hd:k.dec s with
          | none=>rw [hd] at hp;exact hp.elim
          | some x =>
            rw [hd] at hp
            obtain ⟨h1,h2⟩:=dec_ok hd hr.1
            obtain ⟨h3,l',h4,h5,h6⟩:=ih (g x) _ l vs (h x h1) hr.2 hp
            exact ⟨by simp [h3],k.enc x :: l',⟨h2,h4⟩,by simp [h5],h6⟩
  obtain ⟨h1,l',h2,h3,inv,fuel,h4⟩:=key ks g id l vs h hvs hp
  refine (execF_ok hE hm hf h4 hC hX hT h2 (by rw [hvs.length,h1];exact hk)).mono ?_
  rintro e w' ⟨v,t,rfl,h0,h1,h2⟩
  rcases h0 with rfl | h0
  · exact ⟨v,rfl,h1,h2⟩
  · exact ⟨v,rfl,h0 ▸ rep_fgT h1,h2⟩
def tyF3:TyRow:=⟨41,1,false,[.lit .nilFunc],.func⟩
def tys2:List TyRow:=[tyF3] ++ tys
theorem QF:RowsOk Tryz.prog tys2:=⟨by kernel_rfl,Qh⟩
@[match_pattern] abbrev cD (n:Bool) (xs:List Int) (e:Int):List At:=[.bool n,.words false xs,.int .i64 e]
@[match_pattern] abbrev cV (n:Bool) (xs:List Int) (e:Int) (n':Bool) (xs':List Int) (e':Int):List At:=[.bool n,.words false xs,.int .i64 e,.bool n',.words false xs',.int .i64 e']
def zeroIv:Vx:=⟨⟨false,[],0⟩,⟨false,[],0⟩⟩
def roomR(v:Vx):Vx×Int:=if (v.lo.fitsB && v.hi.fitsB)=true then (v,0) else (zeroIv,3)
def whenR(c:Bool)(r:Vx×Int):Vx×Int:=if c=true then r else (zeroIv,2)
def reT(r:Vx×Int):Tv:=.tup [.agg (ivL false r.1),.one (.int .i64 r.2)]
def vRoom:qU:=qF [.v] fun (v:Vx)=>(none,reT (roomR v))
theorem vRoom_vc(v:Vx)(Q:Tv→Prop):qH ⟨tys2,sRaw8⟩ (fun _=>none) 0 Tryz.f200 [.agg (ivL false v)] Q=(br (!Dx.fitsB v.lo) (Q (Tv.tup [Sv.agg [At.bool false,At.words true [],At.int IntKind.i64 0,At.bool false,At.words true [],At.int IntKind.i64 0],Sv.one (At.int IntKind.i64 3)])) (br (!Dx.fitsB v.hi) (Q (Tv.tup [Sv.agg [At.bool false,At.words true [],At.int IntKind.i64 0,At.bool false,At.words true [],At.int IntKind.i64 0],Sv.one (At.int IntKind.i64 3)])) (Q (Tv.tup [Sv.agg (ivL false v),Sv.one (At.int IntKind.i64 0)])))):=by kernel_rfl
theorem QE{b:Bool}(h:(!b)=true):b=false:=by cases b<;>simp_all
theorem q9{b:Bool}(h:(!b)=false):b=true:=by cases b<;>simp_all
theorem vRoom_ok:SpecOk Tryz.prog 200 vRoom :=
  zA (qO QF YG) mixed Tryz.func200 rfl (by decide) (by decide) fun (v:Vx) _ _=>⟨fun _=>none,0,by
    show qH _ _ _ _ _ (fun t=>t=reT (roomR v)∨fgT t=reT (roomR v))
    refine (vRoom_vc v _).mpr (qB (fun h=>?_) fun h=>qB (fun h1=>?_) fun h1=>?_)
    · right;rw [roomR,QE h];rfl
    · right;rw [roomR,QE h1,Bool.and_false];rfl
    · left;rw [roomR,q9 h,q9 h1];rfl⟩
theorem QY{v:Vx}(h:qT v=true):v.lo.fitsB=true∧v.hi.fitsB=true∧QJ v.lo v.hi≤0:=by
  unfold qT at h;simpa using h
theorem QZ{v:Vx}(h:qT v=true):v.Sm 65536:=⟨ZQ (QY h).1,ZQ (QY h).2.1⟩
def checkR(v:Vx):Int:=if qT v=true then 0 else 2
def vCk:qU:=qF [.v] fun (v:Vx)=>(none,iT (checkR v))
theorem vCk_vc(v:Vx)(Q:Tv→Prop):qH ⟨tys2,sRaw8⟩ (fun _=>none) 0 Tryz.f111 [.agg (ivL false v)] Q=(br (!qT v) (Q (Tv.sv (Sv.one (At.int IntKind.i64 2)))) (Q (Tv.sv (Sv.one (At.int IntKind.i64 0))))):=by kernel_rfl
theorem vCk_ok:SpecOk Tryz.prog 111 vCk :=
  qG (qO QF YG) mixed Tryz.func111 rfl (by decide) (by decide) fun (v:Vx) _ _=>⟨fun _=>none,0,by
    show qH _ _ _ _ _ (fun t=>t=iT (checkR v))
    refine (vCk_vc v _).mpr (qB (fun h=>?_) fun h=>?_)
    · rw [checkR,QE h];rfl
    · rw [checkR,q9 h];rfl⟩
def meetsV(v u:Vx):Bool:=qT v && (qT u && (leI (QJ v.lo u.hi) 0 && leI (QJ u.lo v.hi) 0))
def hasV(v:Vx)(d:Dx):Bool:=qT v && (d.fitsB && (leI (QJ v.lo d) 0 && leI (QJ d v.hi) 0))
def Qj(v:Vx)(p:Int):Bool:=leI 0 p && (qT v && Q7 v p)
def sIv1:List (FuncId×qU):=[(200,vRoom),(111,vCk)] ++ sRaw8
theorem sIv1_ok:SpecsOk Tryz.prog sIv1:=⟨vRoom_ok,vCk_ok,YG⟩
def vP1:qU:=fun l=>match l with
  | [.one (.ref (cD n xs e))]=>(some (eB 4611686018427387904 ⟨n,xs,e⟩),vT (qD ⟨n,xs,e⟩))
  | _=>ZL
def canonV(v:Vx):Vx:=⟨qC v.lo,qC v.hi⟩
def vS1:qU:=fun l=>match l with
  | [.one (.ref (cV n xs e n' xs' e')),.one (.ref [.int .i64 k])]=>(some (Vx.Sm 65536 ⟨⟨n,xs,e⟩,⟨n',xs',e'⟩⟩∧-65536≤k∧k≤65536),vT (zE ⟨⟨n,xs,e⟩,⟨n',xs',e'⟩⟩ k))
  | _=>ZL
def vT1:qU:=fun l=>match l with
  | [.one (.ref (cV n xs e n' xs' e')),.one (.ref [.int .i64 k])]=>(some (Vx.Sm 65536 ⟨⟨n,xs,e⟩,⟨n',xs',e'⟩⟩∧1≤k∧k≤8192),vT (qV ⟨⟨n,xs,e⟩,⟨n',xs',e'⟩⟩ k))
  | _=>ZL
theorem vT1_vc(v:Vx)(n:Int)(Q:Tv→Prop):qH ⟨tys2,sRaw8⟩ (fun _=>none) 0 Tryz.f172 [.one (.ref (ivL false v)),.one (.ref [.int .i64 n])] Q=((Vx.Sm 34359738368 v∧(0:Int)≤n∧n≤1099511627776)∧Q (Tv.sv (Sv.agg (ivL true (qV v n))))):=by kernel_rfl
theorem vT1_ok:SpecOk Tryz.prog 172 vT1 :=
  specOk_pat (qO QF YG) mixed Tryz.func172 rfl (by decide) 2 (by decide) fun l p t hw e hp=>by
    unfold vT1 at e
    split at e
    · rename_i n xs e n' xs' e' k
      cases e
      obtain ⟨s,k0,k1⟩:=hp
      exact ⟨Nat.le_refl 2,fun _=>none,0,(vT1_vc ⟨⟨n,xs,e⟩,⟨n',xs',e'⟩⟩ k _).mpr ⟨⟨s.mono (by omega),by omega,by omega⟩,Or.inl rfl⟩⟩
    · cases e;exact hp.elim
def sIv2:List (FuncId×qU):=[(172,vT1)] ++ sIv1
theorem sIv2_ok:SpecsOk Tryz.prog sIv2:=⟨vT1_ok,sIv1_ok⟩
def Qw(r:Vx×Int)(t:Tv):Prop:=t=reT r∨fgT t=reT r
abbrev zT(n:Int):Tv:=.tup [.agg zV,.one (.int .i64 n)]
theorem lt_not{a b:Int}(h:ltI a b=true):leI b a=false:=by rw [Qn];have:=qW.1 h;omega
theorem nlt_le{a b:Int}(h:ltI a b=false):leI b a=true:=by rw [zS];have:=qJ.1 h;omega
theorem oT_vc(ok:Bool)(v u:Vx)(k:Int)(Q:Tv→Prop):qH ⟨tys2,sIv2⟩ (fun _=>none) 4 Tryz.f171 [.one (.bool ok),.one (.fn 172 [.ref (ivL false v),.ref [.int .i64 k]]),.one (.rows false 6 1 (ivL false u))] Q=(((0:Int)≤0∧(0:Int)<(↑(1:Nat):Int))∧br ok (inR ((0:Int)+1)∧br (!qT u) (Q (Tv.tup [Sv.agg [At.bool false,At.words true [],At.int IntKind.i64 0,At.bool false,At.words true [],At.int IntKind.i64 0],Sv.one (At.int IntKind.i64 2)])) ((Vx.Sm 65536 v∧(1:Int)≤k∧k≤8192)∧Q (Tv.tup [Sv.agg (ivL false (roomR (qV v k)).fst),Sv.one (At.int IntKind.i64 (roomR (qV v k)).snd)]))) (inR ((0:Int)+1)∧Q (Tv.tup [Sv.agg [At.bool false,At.words true [],At.int IntKind.i64 0,At.bool false,At.words true [],At.int IntKind.i64 0],Sv.one (At.int IntKind.i64 2)]))):=by kernel_rfl
theorem when_false{r:Vx×Int}{c:Bool}(h:c=false):Qw (whenR c r) (zT 2):=by subst h;exact Or.inr rfl
theorem when_true{r:Vx×Int}{c:Bool}(h:c=true):Qw (whenR c r) (reT r):=by subst h;exact Or.inl rfl
theorem of1_br{ok:Bool}{u:Vx}{r:Vx×Int}{R:Prop}(_:ok=true→qT u=true→R∧Qw (whenR (ok && qT u) r) (reT r)→R∧Qw (whenR (ok && qT u) r) (reT r))(hR:ok=true→qT u=true→R) :
    ((0:Int)≤0∧(0:Int)<((1:Nat):Int))∧br ok (inR (0+1)∧br (!qT u) (Qw (whenR (ok && qT u) r) (zT 2)) (R∧Qw (whenR (ok && qT u) r) (reT r))) (inR (0+1)∧Qw (whenR (ok && qT u) r) (zT 2)):=by
  refine ⟨⟨by omega,by omega⟩,qB (fun h1=>⟨⟨by omega,by omega⟩,qB (fun h2=>?_) fun h2=>⟨hR h1 (q9 h2),?_⟩⟩) fun h1=>⟨⟨by omega,by omega⟩,?_⟩⟩
  · exact when_false (by rw [QE h2,Bool.and_false])
  · exact when_true (by rw [h1,q9 h2];rfl)
  · exact when_false (by rw [h1];rfl)
def ofT(g:Nat)(ok:Bool)(v u:Vx)(k:Int):Option Prop×Tv :=
  match Nat.beq g 172 with
  | true=>(some ((ok=true→1≤k∧k≤8192)∧(qT u=true→Vx.Sm 65536 v)),reT (whenR (ok && qT u) (roomR (qV v k))))
  | false=>ZL
def vOfT:qU:=fun l=>match l with
  | [.one (.bool ok),.one (.fn g [.ref (cV n xs e n' xs' e'),.ref [.int .i64 k]]),.one (.rows false 6 1 (cV m ys i m' ys' i'))]=>ofT g ok ⟨⟨n,xs,e⟩,⟨n',xs',e'⟩⟩ ⟨⟨m,ys,i⟩,⟨m',ys',i'⟩⟩ k
  | _=>ZL
theorem ofT_ok{g:Nat}{ok:Bool}{v u:Vx}{k:Int}{q:Option Prop}{t:Tv}(hp:match q with | none=>True | some q=>q)(e:ofT g ok v u k=(q,t)) :
    qH ⟨tys2,sIv2⟩ (fun _=>none) 4 Tryz.f171 [.one (.bool ok),.one (.fn g [.ref (ivL false v),.ref [.int .i64 k]]),.one (.rows false 6 1 (ivL false u))] (fun x=>x=t∨fgT x=t):=by
  unfold ofT at e
  split at e
  · rename_i hb
    obtain rfl:=Nat.eq_of_beq_eq_true hb
    cases e
    exact (oT_vc ok v u k _).mpr (of1_br (fun _ _ h=>h) fun h1 h2=>⟨hp.2 h2,hp.1 h1⟩)
  · cases e;exact hp.elim
theorem vOfT_ok:SpecOk Tryz.prog 171 vOfT :=
  specOk_pat (qO QF sIv2_ok) mixed Tryz.func171 rfl (by decide) 3 (by decide) fun l q t hw he hp=>by
    unfold vOfT at he
    split at he
    · rename_i ok g n xs e n' xs' e' k m ys i m' ys' i'
      exact ⟨Nat.le_refl 3,fun _=>none,4,ofT_ok (v:=⟨⟨n,xs,e⟩,⟨n',xs',e'⟩⟩) (u:=⟨⟨m,ys,i⟩,⟨m',ys',i'⟩⟩) hp he⟩
    · cases he;exact hp.elim
def sIvT:List (FuncId×qU):=[(171,vOfT)] ++ sIv2
theorem sIvT_ok:SpecsOk Tryz.prog sIvT:=⟨vOfT_ok,sIv2_ok⟩
def ivCut(v:Vx)(p:Int):Vx×Int:=whenR ((leI 1 p && leI p 8192) && qT v) (roomR (qV v p))
def vXCut:qU:=qF [.v,.i .i64] fun (v:Vx) (p:Int)=>(none,reT (ivCut v p))
theorem vXCut_vc(v:Vx)(p:Int)(Q:Tv→Prop):qH ⟨tys2,sIvT⟩ (fun _=>none) 0 Tryz.f138 [.agg (ivL false v),.one (.int .i64 p)] Q=(br (leI 1 p) (((leI p 8192=true→(1:Int)≤p∧p≤8192)∧(qT v=true→Vx.Sm 65536 v))∧Q (Tv.tup [Sv.agg (ivL false (whenR (leI p 8192 && qT v) (roomR (qV v p))).fst),Sv.one (At.int IntKind.i64 (whenR (leI p 8192 && qT v) (roomR (qV v p))).snd)])) (((false=true→(1:Int)≤p∧p≤8192)∧(qT v=true→Vx.Sm 65536 v))∧Q (Tv.tup [Sv.agg (ivL false (whenR (false && qT v) (roomR (qV v p))).fst),Sv.one (At.int IntKind.i64 (whenR (false && qT v) (roomR (qV v p))).snd)]))):=by kernel_rfl
theorem vXCut_ok:SpecOk Tryz.prog 138 vXCut :=
  qG (qO QF sIvT_ok) mixed Tryz.func138 rfl (by decide) (by decide) fun (v:Vx) _ (p:Int) _ _=>⟨fun _=>none,0,by
    show qH _ _ _ _ _ (fun t=>t=reT (ivCut v p))
    refine (vXCut_vc v p _).mpr (qB (fun h=>⟨⟨fun k=>⟨zS.1 h,zS.1 k⟩,QZ⟩,?_⟩) fun h=>⟨⟨fun k=>by simp at k,QZ⟩,?_⟩)
    · unfold ivCut;rw [h];rfl
    · unfold ivCut;rw [h];rfl⟩
def p2(e:Int):Rat:=2^e
theorem qL(e:Int):0<p2 e:=Rat.zpow_pos (by decide)
theorem Qb(a b:Int):p2 (a+b)=p2 a*p2 b:=Rat.zpow_add (by decide) a b
theorem ZX:p2 0=1:=Rat.zpow_zero 2
theorem p2_nat(n:Nat):p2 n=((2^n:Int):Rat):=by
  unfold p2;rw [Rat.zpow_natCast,Rat.intCast_pow];rfl
theorem zU{n:Int}(h:0≤n):p2 n=((2^n.toNat:Int):Rat):=by
  rw [←p2_nat,Int.toNat_of_nonneg h]
theorem p2_neg(e:Int):p2 (-e)*p2 e=1:=by rw [←Qb,Int.add_left_neg,ZX]
theorem p2_sub(a b:Int):p2 (a-b)*p2 b=p2 a:=by rw [←Qb];congr 1;omega
def Dx.rv(d:Dx):Rat:=(d.sm:Rat)*p2 d.e
theorem Ye{d:Dx}(h:d.m=0):d.rv=0:=by
  unfold Dx.rv Dx.sm;rw [h]
  cases d.neg<;>simp
theorem sgnm(neg:Bool)(a b:Int):(if neg then -(a*b) else a*b)=a*(if neg then -b else b):=by cases neg<;>simp [Int.mul_neg]
theorem Y9{neg:Bool}{m e:Int}(h:0≤m):(mkD neg m e).rv=((if neg then -m else m:Int):Rat)*p2 e:=by
  by_cases h0:m=0
  · subst h0;rw [Zd,Ye (by rfl)];cases neg<;>simp
  · obtain ⟨h1,h2⟩:=tz_div (m:=m) (by omega)
    have hm:=mkD_m (neg:=neg) (e:=e) h
    have hn:(mkD neg m e).neg=neg:=by unfold mkD;rw [if_neg h0]
    have he:(mkD neg m e).e=e+(tz m:Int):=by unfold mkD;rw [if_neg h0]
    unfold Dx.rv Dx.sm
    rw [hm,hn,he,Qb,p2_nat]
    conv=>rhs;rw [h1,sgnm,rcM]
    grind
theorem rv_mkS{s e:Int}:(mkS s e).rv=(s:Rat)*p2 e:=by
  unfold mkS;rw [Y9 (by omega)]
  congr 2
  by_cases h:s<0
  · rw [decide_eq_true h];simp only [if_true];omega
  · rw [decide_eq_false h];simp;omega
theorem Qs{d:Dx}(h:0≤d.m):(qC d).rv=d.rv:=by unfold qC;rw [Y9 h];rfl
theorem rv_neg{d:Dx}(h:0≤d.m):(ZO d).rv = -d.rv:=by
  unfold ZO;rw [Y9 h];unfold Dx.rv Dx.sm
  cases d.neg<;>simp [Rat.neg_mul]
theorem rv_abs{d:Dx}(h:0≤d.m):(absD d).rv=(d.m:Rat)*p2 d.e:=by
  unfold absD;rw [Y9 h];simp
theorem Z7{d:Dx}{n:Int}(h:0≤d.m):(zC d n).rv=d.rv*p2 n:=by
  unfold zC;rw [Y9 h,Qb];unfold Dx.rv Dx.sm;rw [Rat.mul_assoc]
theorem Yo{a b:Dx}(ha:0≤a.m)(hb:0≤b.m):(zQ a b).rv=a.rv*b.rv:=by
  unfold zQ;rw [Y9 (Int.mul_nonneg ha hb),Qb]
  have e:(if (!(a.neg == b.neg))=true then -(a.m*b.m) else a.m*b.m)=a.sm*b.sm:=by
    unfold Dx.sm;cases a.neg<;>cases b.neg<;>simp [Int.mul_neg,Int.neg_mul]
  rw [e,rcM];unfold Dx.rv;grind
theorem rv_scl{d:Dx}{mn:Int}(h:mn≤d.e):d.rv=(d.scl mn:Rat)*p2 mn:=by
  unfold Dx.rv Dx.scl
  rw [rcM,←zU (by omega),Rat.mul_assoc,p2_sub]
theorem rv_plusX{x y:Dx}:(plusX x y).rv=x.rv+y.rv:=by
  unfold plusX
  split
  · rename_i h;rw [Ye h,Rat.zero_add]
  · split
    · rename_i h;rw [Ye h,Rat.add_zero]
    · rw [rv_mkS,rv_scl (d:=x) (mn:=min x.e y.e) (by omega),rv_scl (d:=y) (mn:=min x.e y.e) (by omega),rcA]
      unfold Dx.scl;grind
theorem rv_plus{a b:Dx}(ha:0≤a.m)(hb:0≤b.m):(Qx a b).rv=a.rv+b.rv:=by unfold Qx;rw [rv_plusX,Qs ha,Qs hb]
theorem rv_less{a b:Dx}(ha:0≤a.m)(hb:0≤b.m):(Qm a b).rv=a.rv-b.rv:=by unfold Qm;rw [rv_plus ha YQ,rv_neg hb,Rat.sub_eq_add_neg]
theorem cmpI_cases(a b:Int):(Xj a b = -1∧a<b)∨(Xj a b=0∧a=b)∨(Xj a b=1∧b<a):=by
  unfold Xj;split
  · left;exact ⟨rfl,by assumption⟩
  · split<;>omega
theorem YW(a b:Dx):(QJ a b = -1∧a.rv<b.rv)∨(QJ a b=0∧a.rv=b.rv)∨(QJ a b=1∧b.rv<a.rv):=by
  have ea:=rv_scl (d:=a) (mn:=min a.e b.e) (by omega)
  have eb:=rv_scl (d:=b) (mn:=min a.e b.e) (by omega)
  have p:=qL (min a.e b.e)
  rw [ea,eb]
  unfold QJ
  rcases cmpI_cases (a.scl (min a.e b.e)) (b.scl (min a.e b.e)) with ⟨h,k⟩|⟨h,k⟩|⟨h,k⟩
  · left;exact ⟨h,(Rat.mul_lt_mul_right p).2 (Rat.intCast_lt_intCast.2 k)⟩
  · right;left;exact ⟨h,by rw [k]⟩
  · right;right;exact ⟨h,(Rat.mul_lt_mul_right p).2 (Rat.intCast_lt_intCast.2 k)⟩
theorem cmpD_le{a b:Dx}:QJ a b≤0↔a.rv≤b.rv:=by rcases YW a b with ⟨h,k⟩|⟨h,k⟩|⟨h,k⟩<;>rw [h]<;>simp<;>grind
theorem cmpD_lt0{a b:Dx}:QJ a b<0↔a.rv<b.rv:=by rcases YW a b with ⟨h,k⟩|⟨h,k⟩|⟨h,k⟩<;>rw [h]<;>simp<;>grind
theorem cmpD_gt0{a b:Dx}:0<QJ a b↔b.rv<a.rv:=by rcases YW a b with ⟨h,k⟩|⟨h,k⟩|⟨h,k⟩<;>rw [h]<;>simp<;>grind
theorem cmpD_eq0{a b:Dx}:QJ a b=0↔a.rv=b.rv:=by rcases YW a b with ⟨h,k⟩|⟨h,k⟩|⟨h,k⟩<;>rw [h]<;>simp<;>grind
theorem sgn_rv{d:Dx}(h:0≤d.m):(d.sgn=0∧d.rv=0)∨(d.sgn=1∧0<d.rv)∨(d.sgn = -1∧d.rv<0):=by
  have p:=qL d.e
  rcases scl_sgn h d.e with ⟨a,b⟩|⟨a,_,_,b,c⟩|⟨a,_,_,b,c⟩
  · left;refine ⟨a,?_⟩;rw [rv_scl (Int.le_refl _),b];simp
  · right;left;refine ⟨a,?_⟩;rw [rv_scl (Int.le_refl _),b];exact Rat.mul_pos (Rat.intCast_pos.2 c) p
  · right;right;refine ⟨a,?_⟩;rw [rv_scl (Int.le_refl _),b]
    have:0<((d.m*2^(d.e-d.e).toNat:Int):Rat)*p2 d.e:=Rat.mul_pos (Rat.intCast_pos.2 c) p
    rw [Rat.intCast_neg];grind
theorem sgn_less{a b:Dx}(ha:0≤a.m)(hb:0≤b.m):(Qm a b).sgn=QJ a b:=by
  have:=rv_less ha hb
  rcases sgn_rv (Xk (a:=a) (b:=b)) with ⟨h,k⟩|⟨h,k⟩|⟨h,k⟩<;>rcases YW a b with ⟨h',k'⟩|⟨h',k'⟩|⟨h',k'⟩<;>rw [h,h']<;>grind
def fForm:qU:=qF [.b,.w,.i .i64] fun (neg:Bool) (xs:List Int) (e:Int)=>(some (-4611686018427387904≤e∧e≤4611686018427387904),dT (mkD neg (val xs) e))
theorem fForm_vc(neg:Bool)(xs:List Int)(e:Int)(Q:Tv→Prop):qH ⟨tys,sRef3⟩ (fun _=>none) 0 Tryz.f51 [.one (.bool neg),.one (.words false xs),.one (.int .i64 e)] Q=(br (eqI (↑(List.length (ws (val xs))):Int) 0) (Q (Tv.sv (Sv.agg [At.bool false,At.words true [],At.int IntKind.i64 0]))) (((0:Int)≤(↑(tz (val (ws (val xs)))):Int)∧(↑(tz (val (ws (val xs)))):Int)≤9007199254740992)∧inR (e+(↑(tz (val (ws (val xs)))):Int))∧Q (Tv.sv (Sv.agg [At.bool neg,At.words true (ws (val (ws (val xs))/2^Int.toNat (↑(tz (val (ws (val xs)))):Int))),At.int IntKind.i64 (e+(↑(tz (val (ws (val xs)))):Int))])))):=by kernel_rfl
theorem fForm_ok:SpecOk Tryz.prog 51 fForm :=
  qG (qO Qh sRef3_ok) mixed Tryz.func51 rfl (by decide) (by decide) fun neg _ xs hxs (e:Int) _ hp=>⟨fun _=>none,0,by
    have h0:-4611686018427387904≤e:=hp.1
    have h1:e≤4611686018427387904:=hp.2
    have hv:=WfW.val0 hxs
    have ht:=tz_small hxs.1 hxs.2
    refine (fForm_vc neg xs e _).mpr (qB (fun h=>?_) (fun h=>?_))
    · rw [len_zero hv,decide_eq_true_eq] at h
      show _=dT (mkD neg (val xs) e)
      rw [h,Zd]
      rfl
    · rw [len_zero hv,decide_eq_false_iff_not] at h
      rw [qN hv]
      refine ⟨⟨by omega,by omega⟩,⟨by omega,by omega⟩,?_⟩
      show _=dT (mkD neg (val xs) e)
      rw [mkD,if_neg h,Int.toNat_natCast]
      rfl⟩
def fZero:qU:=qF [.d] fun (d:Dx)=>(none,bT d.zeroB)
theorem fZero_vc(d:Dx)(Q:Tv→Prop):qH ⟨tys,sRef3⟩ (fun _=>none) 0 Tryz.f39 [.agg (dyL false d)] Q=(Q (Tv.sv (Sv.one (At.bool (eqI (↑(List.length (ws (val d.xs))):Int) 0))))):=by kernel_rfl
theorem fZero_ok:SpecOk Tryz.prog 39 fZero :=
  qG (qO Qh sRef3_ok) mixed Tryz.func39 rfl (by decide) (by decide) fun (d:Dx) hd _=>⟨fun _=>none,0,by
    refine (fZero_vc d _).mpr ?_
    show _=bT d.zeroB
    rw [len_zero (WfW.val0 hd)]
    rfl⟩
def fRight:qU:=qF [.d] fun (d:Dx)=>(none,bT d.fitsB)
theorem fRight_vc(d:Dx)(Q:Tv→Prop):qH ⟨tys,sRef3⟩ (fun _=>none) 0 Tryz.f58 [.agg (dyL false d)] Q=(br (!Yr (val d.xs)) (br (leI (-32768) d.e) (Q (Tv.sv (Sv.one (At.bool (leI d.e 32768))))) (Q (Tv.sv (Sv.one (At.bool false))))) (Q (Tv.sv (Sv.one (At.bool false))))):=by kernel_rfl
theorem fRight_ok:SpecOk Tryz.prog 58 fRight :=
  qG (qO Qh sRef3_ok) mixed Tryz.func58 rfl (by decide) (by decide) fun (d:Dx) _ _=>⟨fun _=>none,0,by
    show qH _ _ _ _ _ (fun t=>t=bT d.fitsB)
    refine (fRight_vc d _).mpr (qB (fun h=>qB (fun h'=>?_) fun h'=>?_) fun h=>?_)
    · unfold Dx.fitsB Dx.m;rw [h,show decide (-32768≤d.e)=true from h'];rfl
    · unfold Dx.fitsB Dx.m;rw [h,show decide (-32768≤d.e)=false from h'];rfl
    · unfold Dx.fitsB Dx.m;rw [h];rfl⟩
def fTop:qU:=qF [.d] fun (d:Dx)=>(some (eB 2305843009213693952 d),iT (d.e+blen d.m-1))
theorem fTop_vc(d:Dx)(Q:Tv→Prop):qH ⟨tys,sRef3⟩ (fun _=>none) 0 Tryz.f31 [.agg (dyL false d)] Q=(inR (d.e+(↑(blen (val d.xs)):Int))∧inR (d.e+(↑(blen (val d.xs)):Int)-1)∧true=true∧Q (Tv.sv (Sv.one (At.int IntKind.i64 (d.e+(↑(blen (val d.xs)):Int)-1))))):=by kernel_rfl
theorem fTop_ok:SpecOk Tryz.prog 31 fTop :=
  qG (qO Qh sRef3_ok) mixed Tryz.func31 rfl (by decide) (by decide) fun (d:Dx) hd hp=>⟨fun _=>none,0,by
    have hb:=blen_wf hd
    have h0:-2305843009213693952≤d.e:=hp.1
    have h1:d.e≤2305843009213693952:=hp.2
    exact (fTop_vc d _).mpr ⟨⟨by omega,by omega⟩,⟨by omega,by omega⟩,rfl,rfl⟩⟩
def sameD(d c:Dx):Bool:=(d.neg == c.neg) && (eqI d.e c.e && decide (d.xs=c.xs))
def fSame:qU:=qF [.d,.d] fun (d:Dx) (c:Dx)=>(none,bT (sameD d c))
theorem fSame_vc(d c:Dx)(Q:Tv→Prop):qH ⟨tys,sRef3⟩ (fun _=>none) 0 Tryz.f84 [.agg (dyL false d),.agg (dyL false c)] Q=(br (d.neg == c.neg) (br (eqI d.e c.e) (Q (Tv.sv (Sv.one (At.bool (decide (d.xs=c.xs)))))) (Q (Tv.sv (Sv.one (At.bool false))))) (Q (Tv.sv (Sv.one (At.bool false))))):=by kernel_rfl
theorem fSame_ok:SpecOk Tryz.prog 84 fSame :=
  qG (qO Qh sRef3_ok) mixed Tryz.func84 rfl (by decide) (by decide) fun (d:Dx) _ (c:Dx) _ _=>⟨fun _=>none,0,by
    show qH _ _ _ _ _ (fun t=>t=bT (sameD d c))
    refine (fSame_vc d c _).mpr (qB (fun h=>qB (fun h'=>?_) fun h'=>?_) fun h=>?_)
    · rw [sameD,h,h'];rfl
    · rw [sameD,h,h'];rfl
    · rw [sameD,h];rfl⟩
def sF1:List (FuncId×qU):=[(51,fForm),(39,fZero),(58,fRight),(31,fTop),(84,fSame)] ++ sRef3
theorem sF1_ok:SpecsOk Tryz.prog sF1:=⟨fForm_ok,fZero_ok,fRight_ok,fTop_ok,fSame_ok,sRef3_ok⟩
def fOne:qU:=qF [.d] fun (d:Dx)=>(some (eB 4611686018427387904 d),dT (qC d))
theorem fOne_vc(d:Dx)(Q:Tv→Prop):qH ⟨tys,sF1⟩ (fun _=>none) 0 Tryz.f63 [.agg (dyL false d)] Q=(((-4611686018427387904:Int)≤d.e∧d.e≤4611686018427387904)∧Q (Tv.sv (Sv.agg (dyL true (mkD d.neg (val d.xs) d.e))))):=by kernel_rfl
theorem fOne_ok:SpecOk Tryz.prog 63 fOne :=
  qG (qO Qh sF1_ok) mixed Tryz.func63 rfl (by decide) (by decide) fun (d:Dx) _ hp=>⟨fun _=>none,0,(fOne_vc d _).mpr ⟨hp,rfl⟩⟩
def fNeg:qU:=qF [.d] fun (d:Dx)=>(some (eB 4611686018427387904 d),dT (ZO d))
theorem fNeg_vc(d:Dx)(Q:Tv→Prop):qH ⟨tys,sF1⟩ (fun _=>none) 0 Tryz.f70 [.agg (dyL false d)] Q=(((-4611686018427387904:Int)≤d.e∧d.e≤4611686018427387904)∧Q (Tv.sv (Sv.agg (dyL true (mkD (!d.neg) (val d.xs) d.e))))):=by kernel_rfl
theorem fNeg_ok:SpecOk Tryz.prog 70 fNeg :=
  qG (qO Qh sF1_ok) mixed Tryz.func70 rfl (by decide) (by decide) fun (d:Dx) _ hp=>⟨fun _=>none,0,(fNeg_vc d _).mpr ⟨hp,rfl⟩⟩
def fTwice:qU:=qF [.d,.i .i64] fun (d:Dx) (n:Int)=>(some (eB 2305843009213693952 d∧-2305843009213693952≤n∧n≤2305843009213693952),dT (zC d n))
theorem fTwice_vc(d:Dx)(n:Int)(Q:Tv→Prop):qH ⟨tys,sF1⟩ (fun _=>none) 0 Tryz.f25 [.agg (dyL false d),.one (.int .i64 n)] Q=(inR (d.e+n)∧((-4611686018427387904:Int)≤d.e+n∧d.e+n≤4611686018427387904)∧Q (Tv.sv (Sv.agg (dyL true (mkD d.neg (val d.xs) (d.e+n)))))):=by kernel_rfl
theorem fTwice_ok:SpecOk Tryz.prog 25 fTwice :=
  qG (qO Qh sF1_ok) mixed Tryz.func25 rfl (by decide) (by decide) fun (d:Dx) _ (n:Int) _ hp=>⟨fun _=>none,0,by
    obtain ⟨⟨h1,h2⟩,h3,h4⟩:eB 2305843009213693952 d∧-2305843009213693952≤n∧n≤2305843009213693952:=hp
    exact (fTwice_vc d n _).mpr ⟨⟨by omega,by omega⟩,⟨by omega,by omega⟩,rfl⟩⟩
def fSign:qU:=qF [.d] fun (d:Dx)=>(none,iT d.sgn)
theorem fSign_vc(d:Dx)(Q:Tv→Prop):qH ⟨tys,sF1⟩ (fun _=>none) 0 Tryz.f66 [.agg (dyL false d)] Q=(br (Dx.zeroB d) (Q (Tv.sv (Sv.one (At.int IntKind.i64 0)))) (br d.neg (Q (Tv.sv (Sv.one (At.int IntKind.i64 (-1))))) (Q (Tv.sv (Sv.one (At.int IntKind.i64 1)))))):=by kernel_rfl
theorem fSign_ok:SpecOk Tryz.prog 66 fSign :=
  qG (qO Qh sF1_ok) mixed Tryz.func66 rfl (by decide) (by decide) fun (d:Dx) _ _=>⟨fun _=>none,0,by
    show qH _ _ _ _ _ (fun t=>t=iT d.sgn)
    refine (fSign_vc d _).mpr (qB (fun h=>?_) fun h=>qB (fun h'=>?_) fun h'=>?_)
    · rw [Dx.sgn,if_pos (QC.1 h)]
    · rw [Dx.sgn,if_neg (QV.1 h),if_pos h']
    · rw [Dx.sgn,if_neg (QV.1 h),h'];rfl⟩
def fInt:qU:=qF [.i .i64] fun (n:Int)=>(some (inR n),dT (mkS n 0))
theorem fInt_vc(n:Int)(Q:Tv→Prop):qH ⟨tys,sF1⟩ (fun _=>none) 0 Tryz.f22 [.one (.int .i64 n)] Q=(br (ltI n 0) (zR (IntKind.wrap IntKind.u64 ((0:Int)-IntKind.wrap IntKind.u64 n))∧((-4611686018427387904:Int)≤0∧(0:Int)≤4611686018427387904)∧Q (Tv.sv (Sv.agg (dyL true (mkD true (val (ws (IntKind.wrap IntKind.u64 ((0:Int)-IntKind.wrap IntKind.u64 n)))) 0))))) (zR (IntKind.wrap IntKind.u64 n)∧((-4611686018427387904:Int)≤0∧(0:Int)≤4611686018427387904)∧Q (Tv.sv (Sv.agg (dyL true (mkD false (val (ws (IntKind.wrap IntKind.u64 n))) 0)))))):=by kernel_rfl
theorem fInt_ok:SpecOk Tryz.prog 22 fInt :=
  qG (qO Qh sF1_ok) mixed Tryz.func22 rfl (by decide) (by decide) fun (n:Int) _ hp=>⟨fun _=>none,0,by
    obtain ⟨h1,h2⟩:inR n:=hp
    show qH _ _ _ _ _ (fun t=>t=dT (mkS n 0))
    refine (fInt_vc n _).mpr (qB (fun h=>?_) fun h=>?_)
    · have e:IntKind.wrap .u64 (0-IntKind.wrap .u64 n)=(n.natAbs:Int):=by
        rw [qW] at h;rw [IntKind.wrap_u64,IntKind.wrap_u64];omega
      rw [e,qN (by omega)]
      refine ⟨⟨by omega,by omega⟩,⟨by omega,by omega⟩,?_⟩
      rw [mkS,decide_eq_true (qW.1 h)]
    · have e:IntKind.wrap .u64 n=(n.natAbs:Int):=by
        rw [qJ] at h;rw [IntKind.wrap_u64];omega
      rw [e,qN (by omega)]
      refine ⟨⟨by omega,by omega⟩,⟨by omega,by omega⟩,?_⟩
      rw [mkS,decide_eq_false (qJ.1 h)]⟩
def sF2:List (FuncId×qU):=[(63,fOne),(70,fNeg),(25,fTwice),(66,fSign),(22,fInt)] ++ sF1
theorem sF2_ok:SpecsOk Tryz.prog sF2:=⟨fOne_ok,fNeg_ok,fTwice_ok,fSign_ok,fInt_ok,sF1_ok⟩
theorem one_ws{d:Dx}(h:0≤d.m):(qC d).xs=ws (qC d).m:=mkD_ws h
theorem one_len{d:Dx}(h:0≤d.m):eqI ((qC d).xs.length:Nat) 0=decide ((qC d).m=0):=by rw [one_ws h,len_zero zZ]
theorem tz_odd2{m:Int}(h:m % 2=1)(h0:0≤m):tz m=0:=by
  obtain ⟨k,rfl⟩:∃ k,m=2*k+1:=⟨m/2,by omega⟩
  exact tz_odd (by omega)
theorem mkD_mul_pow{neg:Bool}{m e:Int}{k:Nat}(h:0≤m):mkD neg (m*2^k) e=mkD neg m (e+k):=by
  by_cases hz:m=0
  · subst hz;rw [Int.zero_mul,Zd,Zd]
  · have hp:0<m:=by omega
    have p:=two_pow_pos k
    have hq:m*2^k≠0:=by have:=Int.mul_pos hp p;omega
    unfold mkD
    rw [if_neg hq,if_neg hz,tz_mul_pow hp]
    have:m*2^k/2^(tz m+k)=m/2^tz m:=by
      rw [Int.pow_add,Int.mul_ediv_mul_of_pos_left _ _ p]
    rw [this]
    congr 1
    omega
theorem mkD_odd{neg:Bool}{m e:Int}(h:0<m):(mkD neg m e).m % 2=1:=by
  rw [mkD_m (by omega)]
  obtain ⟨k,hk,e⟩:=tz_spec h
  have p:=two_pow_pos (tz m)
  have e2:m/2^tz m=2*k+1:=by
    conv=>lhs;lhs;rw [e]
    exact Int.mul_ediv_cancel_left _ (by omega)
  omega
theorem one_odd{d:Dx}(h:0≤d.m)(h0:(qC d).m≠0):(qC d).m % 2=1:=mkD_odd (by
  have:d.m≠0:=fun e=>h0 (by unfold qC;rw [(Zw h).2 e])
  omega)
def fTimes:qU:=qF [.d,.d] fun (a:Dx) (b:Dx)=>(some (a.Sm 68719476736∧b.Sm 68719476736),dT (zQ a b))
theorem fTimes_vc(a b:Dx)(Q:Tv→Prop):qH ⟨tys,sF2⟩ (fun _=>none) 0 Tryz.f32 [.agg (dyL false a),.agg (dyL false b)] Q=(eB 4611686018427387904 a∧eB 4611686018427387904 b∧true=true∧List.length (ws (val (qC a).xs))+List.length (ws (val (qC b).xs))≤17592186044414∧inR ((qC a).e+(qC b).e)∧((-4611686018427387904:Int)≤(qC a).e+(qC b).e∧(qC a).e+(qC b).e≤4611686018427387904)∧true=true∧Q (Tv.sv (Sv.agg (dyL true (mkD (!(qC a).neg == (qC b).neg) (val (ws (val (qC a).xs*val (qC b).xs))) ((qC a).e+(qC b).e)))))):=by kernel_rfl
theorem times_one{a b:Dx}(ha:0≤a.m)(hb:0≤b.m):mkD (!((qC a).neg == (qC b).neg)) ((qC a).m*(qC b).m) ((qC a).e+(qC b).e)=zQ a b:=by
  unfold zQ
  by_cases h1:a.m=0
  · rw [h1,Int.zero_mul,Zd,show (qC a).m=0 by unfold qC;exact (Zw ha).2 h1,Int.zero_mul,Zd]
  · by_cases h2:b.m=0
    · rw [h2,Int.mul_zero,Zd,show (qC b).m=0 by unfold qC;exact (Zw hb).2 h2,Int.mul_zero,Zd]
    · obtain ⟨e1,g1⟩:=tz_div (m:=a.m) (by omega)
      obtain ⟨e2,g2⟩:=tz_div (m:=b.m) (by omega)
      have r1:(qC a).m=a.m/2^tz a.m:=mkD_m ha
      have r2:(qC b).m=b.m/2^tz b.m:=mkD_m hb
      have n1:(qC a).neg=a.neg:=by unfold qC mkD;rw [if_neg h1]
      have n2:(qC b).neg=b.neg:=by unfold qC mkD;rw [if_neg h2]
      have x1:(qC a).e=a.e+(tz a.m:Int):=by unfold qC mkD;rw [if_neg h1]
      have x2:(qC b).e=b.e+(tz b.m:Int):=by unfold qC mkD;rw [if_neg h2]
      rw [n1,n2,r1,r2,x1,x2]
      generalize a.m/2^tz a.m=A at *
      generalize b.m/2^tz b.m=B at *
      generalize tz a.m=i at *
      generalize tz b.m=j at *
      rw [e1,e2]
      have:(2:Int)^i*A*(2^j*B)=A*B*2^(i+j):=by rw [Int.pow_add];simp only [Int.mul_assoc,Int.mul_comm,Int.mul_left_comm]
      rw [this,mkD_mul_pow (Int.mul_nonneg (by omega) (by omega))]
      congr 1
      omega
theorem fTimes_ok:SpecOk Tryz.prog 32 fTimes :=
  qG (qO Qh sF2_ok) mixed Tryz.func32 rfl (by decide) (by decide) fun (a:Dx) ha (b:Dx) hb hp=>⟨fun _=>none,0,by
    obtain ⟨s1,s2⟩:Dx.Sm 68719476736 a∧Dx.Sm 68719476736 b:=hp
    have m1:=Dx.Wf.m0 ha
    have m2:=Dx.Wf.m0 hb
    obtain ⟨z1,z2,z3⟩:=ZM m1 s1
    obtain ⟨z4,z5,z6⟩:=ZM m2 s2
    have q1:=zZ (d:=a)
    have q2:=zZ (d:=b)
    have hM:=Int.mul_nonneg q1 q2
    have l1:=QR (k:=4294967296) q1 (by omega)
    have l2:=QR (k:=4294967296) q2 (by omega)
    refine (fTimes_vc a b _).mpr ⟨s1.eB (by omega),s2.eB (by omega),rfl,?_⟩
    unfold Dx.m at *
    rw [qN hM]
    refine ⟨by omega,⟨by omega,by omega⟩,⟨by omega,by omega⟩,rfl,?_⟩
    show _=dT (zQ a b)
    rw [←times_one m1 m2];rfl⟩
def fPlus:qU:=qF [.d,.d] fun (a:Dx) (b:Dx)=>(some (a.Sm 68719476736∧b.Sm 68719476736),dT (Qx a b))
theorem fPlus_vc(a b:Dx)(Q:Tv→Prop):qH ⟨tys,sF2⟩ (fun _=>none) 0 Tryz.f61 [.agg (dyL false a),.agg (dyL false b)] Q=(eB 4611686018427387904 a∧eB 4611686018427387904 b∧true=true∧br (eqI (↑(List.length (qC a).xs):Int) 0) (Q (Tv.sv (Sv.agg (dyL true (qC b))))) (br (eqI (↑(List.length (qC b).xs):Int) 0) (Q (Tv.sv (Sv.agg (dyL true (qC a))))) (inR ((qC a).e-Yw (qC a).e (qC b).e)∧((0:Int)≤(qC a).e-Yw (qC a).e (qC b).e∧(qC a).e-Yw (qC a).e (qC b).e≤1099511627776∧List.length (qC a).xs≤8796093022208)∧inR ((qC b).e-Yw (qC a).e (qC b).e)∧((0:Int)≤(qC b).e-Yw (qC a).e (qC b).e∧(qC b).e-Yw (qC a).e (qC b).e≤1099511627776∧List.length (qC b).xs≤8796093022208)∧br ((qC a).neg == (qC b).neg) ((List.length (ws (val (qC a).xs*2^Int.toNat ((qC a).e-Yw (qC a).e (qC b).e)))≤17592186044414∧List.length (ws (val (qC b).xs*2^Int.toNat ((qC b).e-Yw (qC a).e (qC b).e)))≤17592186044414)∧((-4611686018427387904:Int)≤Yw (qC a).e (qC b).e∧Yw (qC a).e (qC b).e≤4611686018427387904)∧true=true∧Q (Tv.sv (Sv.agg (dyL true (mkD (qC a).neg (val (ws (val (ws (val (qC a).xs*2^Int.toNat ((qC a).e-Yw (qC a).e (qC b).e)))+val (ws (val (qC b).xs*2^Int.toNat ((qC b).e-Yw (qC a).e (qC b).e)))))) (Yw (qC a).e (qC b).e)))))) (br (leI 0 (Xj (val (ws (val (qC a).xs*2^Int.toNat ((qC a).e-Yw (qC a).e (qC b).e)))) (val (ws (val (qC b).xs*2^Int.toNat ((qC b).e-Yw (qC a).e (qC b).e)))))) ((val (ws (val (qC b).xs*2^Int.toNat ((qC b).e-Yw (qC a).e (qC b).e)))≤val (ws (val (qC a).xs*2^Int.toNat ((qC a).e-Yw (qC a).e (qC b).e)))∧List.length (ws (val (qC a).xs*2^Int.toNat ((qC a).e-Yw (qC a).e (qC b).e)))≤17592186044414∧List.length (ws (val (qC b).xs*2^Int.toNat ((qC b).e-Yw (qC a).e (qC b).e)))≤17592186044414)∧((-4611686018427387904:Int)≤Yw (qC a).e (qC b).e∧Yw (qC a).e (qC b).e≤4611686018427387904)∧true=true∧Q (Tv.sv (Sv.agg (dyL true (mkD (qC a).neg (val (ws (val (ws (val (qC a).xs*2^Int.toNat ((qC a).e-Yw (qC a).e (qC b).e)))-val (ws (val (qC b).xs*2^Int.toNat ((qC b).e-Yw (qC a).e (qC b).e)))))) (Yw (qC a).e (qC b).e)))))) ((val (ws (val (qC a).xs*2^Int.toNat ((qC a).e-Yw (qC a).e (qC b).e)))≤val (ws (val (qC b).xs*2^Int.toNat ((qC b).e-Yw (qC a).e (qC b).e)))∧List.length (ws (val (qC b).xs*2^Int.toNat ((qC b).e-Yw (qC a).e (qC b).e)))≤17592186044414∧List.length (ws (val (qC a).xs*2^Int.toNat ((qC a).e-Yw (qC a).e (qC b).e)))≤17592186044414)∧((-4611686018427387904:Int)≤Yw (qC a).e (qC b).e∧Yw (qC a).e (qC b).e≤4611686018427387904)∧true=true∧Q (Tv.sv (Sv.agg (dyL true (mkD (qC b).neg (val (ws (val (ws (val (qC b).xs*2^Int.toNat ((qC b).e-Yw (qC a).e (qC b).e)))-val (ws (val (qC a).xs*2^Int.toNat ((qC a).e-Yw (qC a).e (qC b).e)))))) (Yw (qC a).e (qC b).e)))))))))):=by kernel_rfl
theorem fPlus_ok:SpecOk Tryz.prog 61 fPlus :=
  qG (qO Qh sF2_ok) mixed Tryz.func61 rfl (by decide) (by decide) fun (a:Dx) ha (b:Dx) hb hp=>⟨fun _=>none,0,by
    obtain ⟨s1,s2⟩:Dx.Sm 68719476736 a∧Dx.Sm 68719476736 b:=hp
    have m1:=Dx.Wf.m0 ha
    have m2:=Dx.Wf.m0 hb
    have q1:=zZ (d:=a)
    have q2:=zZ (d:=b)
    have z1:=ZM m1 s1
    have z2:=ZM m2 s2
    show qH _ _ _ _ _ (fun t=>t=dT (plusX (qC a) (qC b)))
    refine (fPlus_vc a b _).mpr ⟨s1.eB (by omega),s2.eB (by omega),rfl,?_⟩
    rw [one_len m1,one_len m2]
    refine qB (fun h=>?_) (fun h=>qB (fun h'=>?_) fun h'=>?_)
    · rw [plusX,if_pos (of_decide_eq_true h)]
    · rw [plusX,if_neg (of_decide_eq_false h),if_pos (of_decide_eq_true h')]
    · have h:=of_decide_eq_false h
      have h':=of_decide_eq_false h'
      obtain ⟨X,Y,mn,hX,hY,hmn,pX,pY,lX,lY,mn0,mn1,hsame,hge,hlt⟩:=plus_parts q1 q2 h h' z1 z2
      have w1:(qC a).xs.length≤8796093022208:=by rw [one_ws m1];exact QR q1 (by have:=z1.1;omega)
      have w2:(qC b).xs.length≤8796093022208:=by rw [one_ws m2];exact QR q2 (by have:=z2.1;omega)
      have b1:=z1.2
      have b2:=z2.2
      unfold Dx.m at hX hY
      rw [minI_eq,hX,hY,hmn,qN (n:=X) (by omega),qN (n:=Y) (by omega)]
      refine ⟨⟨by omega,by omega⟩,⟨by omega,by omega,w1⟩,⟨by omega,by omega⟩,⟨by omega,by omega,w2⟩,qB (fun e=>?_) fun e=>qB (fun e'=>?_) fun e'=>?_⟩
      · rw [qN (by omega)]
        refine ⟨⟨lX,lY⟩,⟨mn0,mn1⟩,rfl,?_⟩
        rw [hsame (by simpa using e)]
      · rw [cmpI_ge] at e'
        rw [qN (n:=X-Y) (by omega)]
        refine ⟨⟨e',lX,lY⟩,⟨mn0,mn1⟩,rfl,?_⟩
        rw [hge (by simpa using e) e']
      · have e':¬ Y≤X:=fun h=>by rw [cmpI_ge.2 h] at e';simp at e'
        rw [qN (n:=Y-X) (by omega)]
        refine ⟨⟨by omega,lY,lX⟩,⟨mn0,mn1⟩,rfl,?_⟩
        rw [hlt (by simpa using e) (by omega)]⟩
def fTrim:qU:=qF [.d,.i .i64,.b] fun (d:Dx) (p:Int) (up:Bool)=>(some (d.Sm 34359738368∧0≤p∧p≤1099511627776),dT (cutD d p up))
theorem fTrim_vc(d:Dx)(p:Int)(up:Bool)(Q:Tv→Prop):qH ⟨tys,sF2⟩ (fun _=>none) 0 Tryz.f89 [.agg (dyL false d),.one (.int .i64 p),.one (.bool up)] Q=(eB 4611686018427387904 d∧br (leI (↑(blen (val (qC d).xs)):Int) p) (Q (Tv.sv (Sv.agg (dyL true (qC d))))) (inR ((↑(blen (val (qC d).xs)):Int)-p)∧((0:Int)≤(↑(blen (val (qC d).xs)):Int)-p∧(↑(blen (val (qC d).xs)):Int)-p≤9007199254740992)∧br (Z6 (val (qC d).xs) (Int.toNat ((↑(blen (val (qC d).xs)):Int)-p))) (br (!up == (qC d).neg) (zR 1∧(List.length (ws (val (qC d).xs/2^Int.toNat ((↑(blen (val (qC d).xs)):Int)-p)))≤17592186044414∧List.length (ws 1)≤17592186044414)∧inR ((qC d).e+(↑(blen (val (qC d).xs)):Int))∧inR ((qC d).e+(↑(blen (val (qC d).xs)):Int)-p)∧((-4611686018427387904:Int)≤(qC d).e+(↑(blen (val (qC d).xs)):Int)-p∧(qC d).e+(↑(blen (val (qC d).xs)):Int)-p≤4611686018427387904)∧Q (Tv.sv (Sv.agg (dyL true (mkD (qC d).neg (val (ws (val (ws (val (qC d).xs/2^Int.toNat ((↑(blen (val (qC d).xs)):Int)-p)))+val (ws 1)))) ((qC d).e+(↑(blen (val (qC d).xs)):Int)-p)))))) (inR ((qC d).e+(↑(blen (val (qC d).xs)):Int))∧inR ((qC d).e+(↑(blen (val (qC d).xs)):Int)-p)∧((-4611686018427387904:Int)≤(qC d).e+(↑(blen (val (qC d).xs)):Int)-p∧(qC d).e+(↑(blen (val (qC d).xs)):Int)-p≤4611686018427387904)∧Q (Tv.sv (Sv.agg (dyL true (mkD (qC d).neg (val (ws (val (qC d).xs/2^Int.toNat ((↑(blen (val (qC d).xs)):Int)-p)))) ((qC d).e+(↑(blen (val (qC d).xs)):Int)-p))))))) (inR ((qC d).e+(↑(blen (val (qC d).xs)):Int))∧inR ((qC d).e+(↑(blen (val (qC d).xs)):Int)-p)∧((-4611686018427387904:Int)≤(qC d).e+(↑(blen (val (qC d).xs)):Int)-p∧(qC d).e+(↑(blen (val (qC d).xs)):Int)-p≤4611686018427387904)∧Q (Tv.sv (Sv.agg (dyL true (mkD (qC d).neg (val (ws (val (qC d).xs/2^Int.toNat ((↑(blen (val (qC d).xs)):Int)-p)))) ((qC d).e+(↑(blen (val (qC d).xs)):Int)-p)))))))):=by kernel_rfl
theorem fTrim_ok:SpecOk Tryz.prog 89 fTrim :=
  qG (qO Qh sF2_ok) mixed Tryz.func89 rfl (by decide) (by decide) fun (d:Dx) hd (p:Int) _ (up:Bool) _ hp=>⟨fun _=>none,0,by
    obtain ⟨s1,p0,p1⟩:Dx.Sm 34359738368 d∧0≤p∧p≤1099511627776:=hp
    have m0:=Dx.Wf.m0 hd
    have m1:=zZ (d:=d)
    have hodd:=one_odd m0
    obtain ⟨z1,z2,z3⟩:=ZM m0 s1
    show qH _ _ _ _ _ (fun t=>t=dT (cutX (qC d) p up))
    refine (fTrim_vc d p up _).mpr ⟨s1.eB (by omega),?_⟩
    generalize qC d=x at *
    unfold cutX
    unfold Dx.m at m1 z1 hodd ⊢
    refine qB (fun h=>?_) fun h=>?_
    · rw [if_pos (by have:=zS.1 h;omega)]
    · have h:=Qn.1 h
      rw [if_neg (by omega)]
      obtain ⟨n,hn⟩:∃ n:Int,(blen (val x.xs):Int)-p=n:=⟨_,rfl⟩
      rw [hn]
      have hmp:0<val x.xs:=by
        by_cases hz:val x.xs=0
        · rw [hz] at h;have e0:blen 0=0:=by simp [blen]
          rw [e0] at h;omega
        · omega
      have hq:0≤val x.xs/2^n.toNat:=Int.ediv_nonneg m1 (by have:=two_pow_pos n.toNat;omega)
      have hql:(ws (val x.xs/2^n.toNat)).length≤1073741825:=QR hq (by
        have:=ZK (m:=val x.xs/2^n.toNat) (n:=val x.xs) (Int.ediv_le_self _ m1);omega)
      have hl:Z6 (val x.xs) n.toNat=true:=by rw [lostB_tz hmp,tz_odd2 (hodd (by omega)) m1];simp;omega
      have hb:blen (val x.xs)≤68719476736:=by omega
      refine ⟨⟨by omega,by omega⟩,⟨by omega,by omega⟩,qB (fun _=>qB (fun h'=>?_) fun h'=>?_) fun hf=>by rw [hl] at hf;simp at hf⟩
      · rw [qN hq,Zi,qN (by omega)]
        refine ⟨Yn,⟨by omega,by simp [ws_one]⟩,⟨by omega,by omega⟩,⟨by omega,by omega⟩,⟨by omega,by omega⟩,?_⟩
        rw [if_neg (by cases up<;>cases hh:x.neg<;>simp_all),show x.e+(blen (val x.xs):Int)-p=x.e+n by omega]
      · rw [qN hq]
        refine ⟨⟨by omega,by omega⟩,⟨by omega,by omega⟩,⟨by omega,by omega⟩,?_⟩
        rw [if_pos (by cases up<;>cases hh:x.neg<;>simp_all),Int.add_zero,show x.e+(blen (val x.xs):Int)-p=x.e+n by omega]⟩
def sF3:List (FuncId×qU):=[(32,fTimes),(61,fPlus),(89,fTrim)] ++ sF2
theorem sF3_ok:SpecsOk Tryz.prog sF3:=⟨fTimes_ok,fPlus_ok,fTrim_ok,sF2_ok⟩
def fLess:qU:=qF [.d,.d] fun (a:Dx) (b:Dx)=>(some (a.Sm 34359738368∧b.Sm 34359738368),dT (Qm a b))
theorem fLess_vc(a b:Dx)(Q:Tv→Prop):qH ⟨tys,sF3⟩ (fun _=>none) 0 Tryz.f33 [.agg (dyL false a),.agg (dyL false b)] Q=(eB 4611686018427387904 b∧(Dx.Sm 68719476736 a∧Dx.Sm 68719476736 (ZO b))∧true=true∧Q (Tv.sv (Sv.agg (dyL true (Qx a (ZO b)))))):=by kernel_rfl
theorem fLess_ok:SpecOk Tryz.prog 33 fLess :=
  qG (qO Qh sF3_ok) mixed Tryz.func33 rfl (by decide) (by decide) fun (a:Dx) ha (b:Dx) hb hp=>⟨fun _=>none,0,by
    obtain ⟨s1,s2⟩:Dx.Sm 34359738368 a∧Dx.Sm 34359738368 b:=hp
    exact (fLess_vc a b _).mpr ⟨s2.eB (by omega),⟨s1.mono (by omega),(Yd s2 (Dx.Wf.m0 hb)).mono (by omega)⟩,rfl,rfl⟩⟩
def sF4:List (FuncId×qU):=[(33,fLess)] ++ sF3
theorem sF4_ok:SpecsOk Tryz.prog sF4:=⟨fLess_ok,sF3_ok⟩
def fOrder:qU:=qF [.d,.d] fun (a:Dx) (b:Dx)=>(some (a.Sm 34359738368∧b.Sm 34359738368),iT (QJ a b))
theorem fOrder_vc(a b:Dx)(Q:Tv→Prop):qH ⟨tys,sF4⟩ (fun _=>none) 0 Tryz.f29 [.agg (dyL false a),.agg (dyL false b)] Q=(true=true∧br (ltI (Dx.sgn a) (Dx.sgn b)) (Q (Tv.sv (Sv.one (At.int IntKind.i64 (-1))))) (br (ltI (Dx.sgn b) (Dx.sgn a)) (Q (Tv.sv (Sv.one (At.int IntKind.i64 1)))) (br (eqI (Dx.sgn a) 0) (Q (Tv.sv (Sv.one (At.int IntKind.i64 0)))) (eB 2305843009213693952 a∧eB 2305843009213693952 b∧true=true∧br (neI (a.e+(↑(blen (Dx.m a)):Int)-1) (b.e+(↑(blen (Dx.m b)):Int)-1)) (br (ltI (b.e+(↑(blen (Dx.m b)):Int)-1) (a.e+(↑(blen (Dx.m a)):Int)-1)) (Q (Tv.sv (Sv.one (At.int IntKind.i64 (Dx.sgn a))))) (inR ((0:Int)-Dx.sgn a)∧Q (Tv.sv (Sv.one (At.int IntKind.i64 ((0:Int)-Dx.sgn a)))))) ((Dx.Sm 34359738368 a∧Dx.Sm 34359738368 b)∧Q (Tv.sv (Sv.one (At.int IntKind.i64 (Dx.sgn (Qm a b)))))))))):=by kernel_rfl
theorem fOrder_ok:SpecOk Tryz.prog 29 fOrder :=
  qG (qO Qh sF4_ok) mixed Tryz.func29 rfl (by decide) (by decide) fun (a:Dx) ha (b:Dx) hb hp=>⟨fun _=>none,0,by
    obtain ⟨s1,s2⟩:Dx.Sm 34359738368 a∧Dx.Sm 34359738368 b:=hp
    have m1:=Dx.Wf.m0 ha
    have m2:=Dx.Wf.m0 hb
    have c1:=sgn_cases (d:=a)
    show qH _ _ _ _ _ (fun t=>t=iT (QJ a b))
    refine (fOrder_vc a b _).mpr ⟨rfl,qB (fun h=>?_) fun h=>qB (fun h'=>?_) fun h'=>qB (fun h0=>?_) fun h0=>?_⟩
    · rw [cmpD_lt m1 m2 (qW.1 h)]
    · rw [cmpD_gt m1 m2 (qW.1 h')]
    · rw [qJ] at h h';rw [zX] at h0
      rw [cmpD_zero m1 m2 h0 (by omega)]
    · rw [qJ] at h h';rw [qR] at h0
      have hs:a.sgn=b.sgn:=by omega
      obtain ⟨t1,t2⟩:=cmpD_top m1 m2 hs h0
      refine ⟨s1.eB (by omega),s2.eB (by omega),rfl,qB (fun e=>qB (fun e'=>?_) fun e'=>?_) fun e=>?_⟩
      · rw [t2 (qW.1 e')]
      · rw [qJ] at e';rw [Qi] at e
        refine ⟨⟨by omega,by omega⟩,?_⟩
        rw [t1 (by omega),Int.zero_sub]
      · exact ⟨⟨s1,s2⟩,by rw [sgn_less m1 m2]⟩⟩
def rdT(r:Dx×Int):Tv:=.tup [.agg (dyL false r.1),.one (.int .i64 r.2)]
def sF5:List (FuncId×qU):=[(29,fOrder)] ++ sF4
theorem sF5_ok:SpecsOk Tryz.prog sF5:=⟨fOrder_ok,sF4_ok⟩
def sRef4:List (FuncId×qU):=[] ++ sF5
theorem Z8:SpecsOk Tryz.prog sRef4:=sF5_ok
theorem Qz{a b:Int}(h:a≤b):p2 a≤p2 b:=by
  have e:p2 b=p2 a*p2 (b-a):=by rw [←Qb];congr 1;omega
  have h1:(1:Rat)≤p2 (b-a):=by
    rw [zU (by omega)]
    have:=two_pow_pos (b-a).toNat
    exact (Rat.intCast_le_intCast (a:=1)).2 (by omega)
  have:=rmL h1 (rlL (qL a))
  rw [e];grind
theorem p2_one:p2 1=2:=by decide
theorem p2_lt{a b:Int}(h:a<b):p2 a<p2 b:=by
  have h1:=Qz (a:=a+1) (b:=b) (by omega)
  rw [Qb,p2_one] at h1
  have:=qL a
  grind
theorem p2_lt_iff{a b:Int}:p2 a<p2 b↔a<b:=by
  refine ⟨fun h=>?_,p2_lt⟩
  by_cases k:a<b
  · exact k
  · have:=Qz (a:=b) (b:=a) (by omega);grind
theorem amt_ge{m e:Int}(h:0<m):p2 (e+(blen m:Int)-1)≤(m:Rat)*p2 e:=by
  have h1:=YT h
  have h2:=Zm h
  have e1:e+(blen m:Int)-1=((blen m-1:Nat):Int)+e:=by omega
  rw [e1,Qb,p2_nat]
  exact rmR (Rat.intCast_le_intCast.2 h1) (rlL (qL e))
theorem amt_lt{m e:Int}:(m:Rat)*p2 e<p2 (e+(blen m:Int)):=by
  have h1:=Q5 m
  rw [Int.add_comm,Qb,p2_nat]
  exact (Rat.mul_lt_mul_right (qL e)).2 (Rat.intCast_lt_intCast.2 h1)
theorem QX{d:Dx}(h:0≤d.m):(0≤d.rv→d.rv=(d.m:Rat)*p2 d.e)∧(d.rv≤0→-d.rv=(d.m:Rat)*p2 d.e):=by
  have p:=qL d.e
  have q:0≤(d.m:Rat)*p2 d.e:=rmN (Rat.intCast_nonneg.2 h) (rlL p)
  unfold Dx.rv Dx.sm
  cases d.neg with
  | false=>simp only [Bool.false_eq_true,if_false];grind
  | true=>simp only [if_true,Rat.intCast_neg];grind
def Mul2(K:Int)(x:Rat):Prop:=∃ s:Int,x=(s:Rat)*p2 K
theorem rv_mul2{d:Dx}{K:Int}(h:K≤d.e):Mul2 K d.rv:=⟨_,rv_scl h⟩
theorem Mul2.sub{K:Int}{x y:Rat}:Mul2 K x→Mul2 K y→Mul2 K (x-y)
  | ⟨s,hs⟩,⟨t,ht⟩=>⟨s-t,by rw [hs,ht,Rat.intCast_sub];grind⟩
theorem Mul2.pos{K:Int}{x:Rat}(h:Mul2 K x)(hx:0<x):p2 K≤x:=by
  obtain ⟨s,rfl⟩:=h
  have p:=qL K
  have hs:0<s:=by
    by_cases hs:0<s
    · exact hs
    · have:(s:Rat)≤0:=Rat.intCast_nonpos.2 (by omega)
      have:=rmR this (rlL p)
      grind
  have:((1:Int):Rat)≤(s:Rat):=Rat.intCast_le_intCast.2 (by omega)
  have:=rmR this (rlL p)
  have e1:((1:Int):Rat)=1:=rfl
  rw [e1] at this
  grind
theorem fits_e{d:Dx}(h:d.fitsB=true):-32768≤d.e∧d.e≤32768:=by
  unfold Dx.fitsB at h;simp at h;omega
theorem fits_lt{d:Dx}(h:d.fitsB=true):(d.m:Rat)*p2 d.e<p2 98304:=by
  have h1:=fits_e h
  have h2:=(ZQ h).1
  have:=amt_lt (m:=d.m) (e:=d.e)
  have:=Qz (a:=d.e+(blen d.m:Int)) (b:=98304) (by omega)
  grind
theorem sgn_zero2{d:Dx}:d.sgn=0↔d.m=0:=by
  unfold Dx.sgn;split
  · simp_all
  · split<;>simp_all
theorem Z9{d:Dx}(h:0≤d.m):d.zeroB=true↔d.rv=0:=by
  rw [QC,←sgn_zero2]
  rcases sgn_rv h with ⟨a,b⟩|⟨a,b⟩|⟨a,b⟩<;>rw [a]<;>simp<;>grind
theorem cmp_shift{w l:Dx}{p:Int}(hw:0≤w.m):QJ (zC w p) l≤0↔w.rv*p2 p≤l.rv:=by
  rw [cmpD_le,Z7 hw]
theorem narrow_p{w l:Rat}{p:Int}(hw:p2 (-32768)≤w)(hl:l<p2 98304)(h:w*p2 p≤l):p<131072:=by
  have h1:=rmR hw (rlL (qL p))
  rw [←Qb] at h1
  have:=(p2_lt_iff (a:=-32768+p) (b:=98304)).1 (by grind)
  omega
theorem narrowX_eq{w l:Dx}{p:Int}(w0:0≤w.m)(l0:0≤l.m)(hw:p2 (-32768)≤w.rv)(hl:l.rv<p2 98304):narrowX w l p=decide (w.rv*p2 p≤l.rv):=by
  unfold narrowX
  by_cases h:w.rv*p2 p≤l.rv
  · have hp:=narrow_p hw hl h
    rw [decide_eq_true (cmp_shift w0 |>.2 h),decide_eq_true h,decide_eq_true (show p≤1048576 by omega)]
    have wp:0<w.rv:=by have:=qL (-32768);grind
    have lp:0<l.rv:=by have:=Rat.mul_pos wp (qL p);grind
    have wm:0<w.m:=by
      by_cases hz:w.m=0
      · rw [Ye hz] at wp;grind
      · omega
    have a1:=amt_ge (e:=w.e) wm
    have a2:=amt_lt (m:=l.m) (e:=l.e)
    rw [←(QX w0).1 (by grind)] at a1
    rw [←(QX l0).1 (by grind)] at a2
    have a3:=rmR a1 (rlL (qL p))
    rw [←Qb] at a3
    have:=(p2_lt_iff (a:=w.e+(blen w.m:Int)-1+p) (b:=l.e+(blen l.m:Int))).1 (by grind)
    rw [decide_eq_true (show w.e+(blen w.m:Int)-1+p≤l.e+(blen l.m:Int)-1+1 by omega)]
    rfl
  · rw [decide_eq_false h,decide_eq_false (fun k=>h ((cmp_shift w0).1 k)),Bool.and_false,Bool.and_false]
def gRight:qU:=qF [.v] fun (v:Vx)=>(none,bT (qT v))
theorem gRight_vc(v:Vx)(Q:Tv→Prop):qH ⟨tys2,sRef4⟩ (fun _=>none) 0 Tryz.f56 [.agg (ivL false v)] Q=(br (Dx.fitsB v.lo) (br (Dx.fitsB v.hi) ((Dx.Sm 34359738368 v.lo∧Dx.Sm 34359738368 v.hi)∧Q (Tv.sv (Sv.one (At.bool (leI (QJ v.lo v.hi) 0))))) (Q (Tv.sv (Sv.one (At.bool false))))) (Q (Tv.sv (Sv.one (At.bool false))))):=by kernel_rfl
theorem gRight_ok:SpecOk Tryz.prog 56 gRight :=
  qG (qO QF Z8) mixed Tryz.func56 rfl (by decide) (by decide) fun (v:Vx) _ _=>⟨fun _=>none,0,by
    refine (gRight_vc v _).mpr (qB (fun h1=>qB (fun h2=>⟨⟨(ZQ h1).mono (by omega),(ZQ h2).mono (by omega)⟩,?_⟩) fun h2=>?_) fun h1=>?_)
    · show _=bT (qT v);rw [qT,h1,h2];rfl
    · show _=bT (qT v);rw [qT,h1,h2];rfl
    · show _=bT (qT v);rw [qT,h1];rfl⟩
def gOne:qU:=qF [.v] fun (v:Vx)=>(some (v.Sm 65536),vT (canonV v))
theorem gOne_vc(v:Vx)(Q:Tv→Prop):qH ⟨tys2,sRef4⟩ (fun _=>none) 0 Tryz.f85 [.agg (ivL false v)] Q=(eB 4611686018427387904 v.lo∧eB 4611686018427387904 v.hi∧true=true∧Q (Tv.sv (Sv.agg (ivL true (Vx.mk (qC v.lo) (qC v.hi)))))):=by kernel_rfl
theorem gOne_ok:SpecOk Tryz.prog 85 gOne :=
  qG (qO QF Z8) mixed Tryz.func85 rfl (by decide) (by decide) fun (v:Vx) _ hp=>⟨fun _=>none,0,(gOne_vc v _).mpr ⟨hp.1.eB (by omega),hp.2.eB (by omega),rfl,rfl⟩⟩
def gPoint:qU:=qF [.d] fun (d:Dx)=>(some (eB 4611686018427387904 d),vT (qD d))
theorem gPoint_vc(d:Dx)(Q:Tv→Prop):qH ⟨tys2,sRef4⟩ (fun _=>none) 0 Tryz.f28 [.agg (dyL false d)] Q=(eB 4611686018427387904 d∧Q (Tv.sv (Sv.agg (ivL true (Vx.mk (qC d) (qC d)))))):=by kernel_rfl
theorem gPoint_ok:SpecOk Tryz.prog 28 gPoint :=
  qG (qO QF Z8) mixed Tryz.func28 rfl (by decide) (by decide) fun (d:Dx) _ hp=>⟨fun _=>none,0,(gPoint_vc d _).mpr ⟨hp,rfl⟩⟩
def gTrim:qU:=qF [.v,.i .i64] fun (v:Vx) (p:Int)=>(some (v.Sm 34359738368∧0≤p∧p≤1099511627776),vT (qV v p))
theorem gTrim_vc(v:Vx)(p:Int)(Q:Tv→Prop):qH ⟨tys2,sRef4⟩ (fun _=>none) 0 Tryz.f60 [.agg (ivL false v),.one (.int .i64 p)] Q=((Dx.Sm 34359738368 v.lo∧(0:Int)≤p∧p≤1099511627776)∧(Dx.Sm 34359738368 v.hi∧(0:Int)≤p∧p≤1099511627776)∧true=true∧Q (Tv.sv (Sv.agg (ivL true (Vx.mk (cutD v.lo p false) (cutD v.hi p true)))))):=by kernel_rfl
theorem gTrim_ok:SpecOk Tryz.prog 60 gTrim :=
  qG (qO QF Z8) mixed Tryz.func60 rfl (by decide) (by decide) fun (v:Vx) _ (p:Int) _ hp=>⟨fun _=>none,0,(gTrim_vc v p _).mpr ⟨⟨hp.1.1,hp.2⟩,⟨hp.1.2,hp.2⟩,rfl,rfl⟩⟩
def gNeg:qU:=qF [.v] fun (v:Vx)=>(some (eB 4611686018427387904 v.lo∧eB 4611686018427387904 v.hi),vT (ZF v))
theorem gNeg_vc(v:Vx)(Q:Tv→Prop):qH ⟨tys2,sRef4⟩ (fun _=>none) 0 Tryz.f35 [.agg (ivL false v)] Q=(eB 4611686018427387904 v.hi∧eB 4611686018427387904 v.lo∧true=true∧Q (Tv.sv (Sv.agg (ivL true (Vx.mk (ZO v.hi) (ZO v.lo)))))):=by kernel_rfl
theorem gNeg_ok:SpecOk Tryz.prog 35 gNeg :=
  qG (qO QF Z8) mixed Tryz.func35 rfl (by decide) (by decide) fun (v:Vx) _ hp=>⟨fun _=>none,0,(gNeg_vc v _).mpr ⟨hp.2,hp.1,rfl,rfl⟩⟩
def gScale:qU:=qF [.v,.i .i64] fun (v:Vx) (n:Int)=>(some (eB 2305843009213693952 v.lo∧eB 2305843009213693952 v.hi∧-2305843009213693952≤n∧n≤2305843009213693952),vT (zE v n))
theorem gScale_vc(v:Vx)(n:Int)(Q:Tv→Prop):qH ⟨tys2,sRef4⟩ (fun _=>none) 0 Tryz.f26 [.agg (ivL false v),.one (.int .i64 n)] Q=((eB 2305843009213693952 v.lo∧(-2305843009213693952:Int)≤n∧n≤2305843009213693952)∧(eB 2305843009213693952 v.hi∧(-2305843009213693952:Int)≤n∧n≤2305843009213693952)∧true=true∧Q (Tv.sv (Sv.agg (ivL true (Vx.mk (zC v.lo n) (zC v.hi n)))))):=by kernel_rfl
theorem gScale_ok:SpecOk Tryz.prog 26 gScale :=
  qG (qO QF Z8) mixed Tryz.func26 rfl (by decide) (by decide) fun (v:Vx) _ (n:Int) _ hp=>⟨fun _=>none,0,by
    obtain ⟨h1,h2,h3⟩:eB 2305843009213693952 v.lo∧eB 2305843009213693952 v.hi∧-2305843009213693952≤n∧n≤2305843009213693952:=hp
    exact (gScale_vc v n _).mpr ⟨⟨h1,h3⟩,⟨h2,h3⟩,rfl,rfl⟩⟩
def sameV(v u:Vx):Bool:=sameD v.lo u.lo && sameD v.hi u.hi
def gSame:qU:=qF [.v,.v] fun (v:Vx) (u:Vx)=>(none,bT (sameV v u))
theorem gSame_vc(v u:Vx)(Q:Tv→Prop):qH ⟨tys2,sRef4⟩ (fun _=>none) 0 Tryz.f53 [.agg (ivL false v),.agg (ivL false u)] Q=(br (sameD v.lo u.lo) (Q (Tv.sv (Sv.one (At.bool (sameD v.hi u.hi))))) (Q (Tv.sv (Sv.one (At.bool false))))):=by kernel_rfl
theorem gSame_ok:SpecOk Tryz.prog 53 gSame :=
  qG (qO QF Z8) mixed Tryz.func53 rfl (by decide) (by decide) fun (v:Vx) _ (u:Vx) _ _=>⟨fun _=>none,0,by
    show qH _ _ _ _ _ (fun t=>t=bT (sameV v u))
    refine (gSame_vc v u _).mpr (qB (fun h=>?_) fun h=>?_)<;>rw [sameV,h]<;>rfl⟩
def sG1:List (FuncId×qU):=[(56,gRight),(85,gOne),(28,gPoint),(60,gTrim),(35,gNeg),(26,gScale),(53,gSame)] ++ sRef4
theorem sG1_ok:SpecsOk Tryz.prog sG1:=⟨gRight_ok,gOne_ok,gPoint_ok,gTrim_ok,gNeg_ok,gScale_ok,gSame_ok,Z8⟩
def gMeets:qU:=qF [.v,.v] fun (v:Vx) (u:Vx)=>(none,bT (meetsV v u))
theorem gMeets_vc(v u:Vx)(Q:Tv→Prop):qH ⟨tys2,sG1⟩ (fun _=>none) 0 Tryz.f36 [.agg (ivL false v),.agg (ivL false u)] Q=(br (qT v) (br (qT u) ((Dx.Sm 34359738368 v.lo∧Dx.Sm 34359738368 u.hi)∧br (leI (QJ v.lo u.hi) 0) ((Dx.Sm 34359738368 u.lo∧Dx.Sm 34359738368 v.hi)∧Q (Tv.sv (Sv.one (At.bool (leI (QJ u.lo v.hi) 0))))) (Q (Tv.sv (Sv.one (At.bool false))))) (Q (Tv.sv (Sv.one (At.bool false))))) (Q (Tv.sv (Sv.one (At.bool false))))):=by kernel_rfl
theorem gMeets_ok:SpecOk Tryz.prog 36 gMeets :=
  qG (qO QF sG1_ok) mixed Tryz.func36 rfl (by decide) (by decide) fun (v:Vx) _ (u:Vx) _ _=>⟨fun _=>none,0,by
    show qH _ _ _ _ _ (fun t=>t=bT (meetsV v u))
    refine (gMeets_vc v u _).mpr (qB (fun h1=>qB (fun h2=>?_) fun h2=>?_) fun h1=>?_)
    · have z1:=QZ h1
      have z2:=QZ h2
      refine ⟨⟨z1.1.mono (by omega),z2.2.mono (by omega)⟩,qB (fun h3=>⟨⟨z2.1.mono (by omega),z1.2.mono (by omega)⟩,?_⟩) fun h3=>?_⟩
      · rw [meetsV,h1,h2,h3];rfl
      · rw [meetsV,h1,h2,h3];rfl
    · rw [meetsV,h1,h2];rfl
    · rw [meetsV,h1];rfl⟩
def gHas:qU:=qF [.v,.d] fun (v:Vx) (d:Dx)=>(none,bT (hasV v d))
theorem gHas_vc(v:Vx)(d:Dx)(Q:Tv→Prop):qH ⟨tys2,sG1⟩ (fun _=>none) 0 Tryz.f54 [.agg (ivL false v),.agg (dyL false d)] Q=(br (qT v) (br (Dx.fitsB d) ((Dx.Sm 34359738368 v.lo∧Dx.Sm 34359738368 d)∧br (leI (QJ v.lo d) 0) ((Dx.Sm 34359738368 d∧Dx.Sm 34359738368 v.hi)∧Q (Tv.sv (Sv.one (At.bool (leI (QJ d v.hi) 0))))) (Q (Tv.sv (Sv.one (At.bool false))))) (Q (Tv.sv (Sv.one (At.bool false))))) (Q (Tv.sv (Sv.one (At.bool false))))):=by kernel_rfl
theorem gHas_ok:SpecOk Tryz.prog 54 gHas :=
  qG (qO QF sG1_ok) mixed Tryz.func54 rfl (by decide) (by decide) fun (v:Vx) _ (d:Dx) _ _=>⟨fun _=>none,0,by
    show qH _ _ _ _ _ (fun t=>t=bT (hasV v d))
    refine (gHas_vc v d _).mpr (qB (fun h1=>qB (fun h2=>?_) fun h2=>?_) fun h1=>?_)
    · have z1:=QZ h1
      have z2:=ZQ h2
      refine ⟨⟨z1.1.mono (by omega),z2.mono (by omega)⟩,qB (fun h3=>⟨⟨z2.mono (by omega),z1.2.mono (by omega)⟩,?_⟩) fun h3=>?_⟩
      · rw [hasV,h1,h2,h3];rfl
      · rw [hasV,h1,h2,h3];rfl
    · rw [hasV,h1,h2];rfl
    · rw [hasV,h1];rfl⟩
theorem right_le{v:Vx}(h:qT v=true):v.lo.rv≤v.hi.rv:=cmpD_le.1 (QY h).2.2
def gNarrow:qU:=qF [.v,.i .i64] fun (v:Vx) (p:Int)=>(none,bT (Qj v p))
theorem gNarrow_vc(v:Vx)(p:Int)(Q:Tv→Prop):qH ⟨tys2,sG1⟩ (fun _=>none) 0 Tryz.f55 [.agg (ivL false v),.one (.int .i64 p)] Q=(br (!qT v) (Q (Tv.sv (Sv.one (At.bool false)))) (br (ltI p 0) (Q (Tv.sv (Sv.one (At.bool false)))) (true=true∧br (neI (Dx.sgn v.lo) (Dx.sgn v.hi)) (Q (Tv.sv (Sv.one (At.bool (eqI (Dx.sgn v.lo) (Dx.sgn v.hi)))))) (br (eqI (Dx.sgn v.lo) 0) (Q (Tv.sv (Sv.one (At.bool (eqI (Dx.sgn v.lo) (Dx.sgn v.hi)))))) (br (ltI (Dx.sgn v.lo) 0) (eB 4611686018427387904 v.hi∧(Dx.Sm 34359738368 v.hi∧Dx.Sm 34359738368 v.lo)∧br (Dx.zeroB (Qm v.hi v.lo)) (Q (Tv.sv (Sv.one (At.bool true)))) (br (ltI 196608 p) (Q (Tv.sv (Sv.one (At.bool false)))) ((eB 2305843009213693952 (Qm v.hi v.lo)∧(-2305843009213693952:Int)≤p∧p≤2305843009213693952)∧(Dx.Sm 34359738368 (zC (Qm v.hi v.lo) p)∧Dx.Sm 34359738368 (ZO v.hi))∧true=true∧Q (Tv.sv (Sv.one (At.bool (leI (QJ (zC (Qm v.hi v.lo) p) (ZO v.hi)) 0))))))) ((Dx.Sm 34359738368 v.hi∧Dx.Sm 34359738368 v.lo)∧br (Dx.zeroB (Qm v.hi v.lo)) (Q (Tv.sv (Sv.one (At.bool true)))) (br (ltI 196608 p) (Q (Tv.sv (Sv.one (At.bool false)))) ((eB 2305843009213693952 (Qm v.hi v.lo)∧(-2305843009213693952:Int)≤p∧p≤2305843009213693952)∧(Dx.Sm 34359738368 (zC (Qm v.hi v.lo) p)∧Dx.Sm 34359738368 v.lo)∧true=true∧Q (Tv.sv (Sv.one (At.bool (leI (QJ (zC (Qm v.hi v.lo) p) v.lo) 0)))))))))))):=by kernel_rfl
theorem wide_ge{v:Vx}(hv:v.P)(hr:qT v=true)(hz:(Qm v.hi v.lo).zeroB=false):p2 (-32768)≤(Qm v.hi v.lo).rv:=by
  have h:=rv_less hv.2 hv.1
  have f:=QY hr
  have hm:=(rv_mul2 (fits_e f.2.1).1).sub (rv_mul2 (fits_e f.1).1)
  rw [←h] at hm
  refine hm.pos ?_
  have:=right_le hr
  have:(Qm v.hi v.lo).rv≠0:=fun e=>by rw [(Z9 Xk).2 e] at hz;simp at hz
  grind
theorem narrow_part{w l l':Dx}{p:Int}{r:Bool}(w0:0≤w.m)(l0:0≤l.m)(hw:p2 (-32768)≤w.rv)(hl:l.rv<p2 98304)(e:l'.rv=l.rv)(p0:0≤p)(sw:w.Sm 4294967296)(sl:l'.Sm 4294967296)(hr:r=narrowX w l p) :
    br (ltI 196608 p) (Tv.sv (Sv.one (At.bool false))=bT r) ((eB 2305843009213693952 w∧(-2305843009213693952:Int)≤p∧p≤(2305843009213693952:Int))∧(Dx.Sm 34359738368 (zC w p)∧Dx.Sm 34359738368 l')∧true=true∧Tv.sv (Sv.one (At.bool (leI (QJ (zC w p) l') 0)))=bT r):=by
  rw [hr,narrowX_eq w0 l0 hw hl]
  refine qB (fun h=>?_) fun h=>?_
  · rw [decide_eq_false]
    intro k
    have:=narrow_p hw hl k
    have:=qW.1 h
    omega
  · have h:=qJ.1 h
    refine ⟨⟨sw.eB (by omega),by omega,by omega⟩,⟨(shiftD_sm (N:=4294967296) (M:=196608) w0 sw (by omega) (by omega)).mono (by omega),sl.mono (by omega)⟩,rfl,?_⟩
    have:leI (QJ (zC w p) l') 0=decide (w.rv*p2 p≤l.rv):=by
      unfold leI;rw [←e,←decide_eq_decide.2 (cmp_shift (l:=l') w0)]
    rw [this]
theorem gNarrow_ok:SpecOk Tryz.prog 55 gNarrow :=
  qG (qO QF sG1_ok) mixed Tryz.func55 rfl (by decide) (by decide) fun (v:Vx) hv (p:Int) _ _=>⟨fun _=>none,0,by
    have hv:=Vx.Wf.p hv
    show qH _ _ _ _ _ (fun t=>t=bT (Qj v p))
    refine (gNarrow_vc v p _).mpr (qB (fun h=>?_) fun h=>qB (fun h1=>?_) fun h1=>⟨rfl,qB (fun h2=>?_) fun h2=>qB (fun h3=>?_) fun h3=>?_⟩)
    · rw [Qj,QE h,Bool.false_and,Bool.and_false]
    · rw [Qj,lt_not h1,Bool.false_and]
    · have h2:=Qi.1 h2
      rw [Qj,nlt_le h1,q9 h,Q7,if_pos h2,show eqI v.lo.sgn v.hi.sgn=false from qR.2 h2];rfl
    · have h2:=qQ.1 h2
      rw [Qj,nlt_le h1,q9 h,Q7,if_neg (by omega),if_pos (zX.1 h3),show eqI v.lo.sgn v.hi.sgn=true from zX.2 h2];rfl
    · have hr:=q9 h
      have h2:=qQ.1 h2
      have h3:=qR.1 h3
      have sv:=QZ hr
      have fv:=QY hr
      have p0:=zS.1 (nlt_le h1)
      have sl:=lessD_sm hv.2 hv.1 sv.2 sv.1
      have key:Qj v p=if (Qm v.hi v.lo).zeroB then true else narrowX (Qm v.hi v.lo) (if v.lo.sgn<0 then absD v.hi else absD v.lo) p:=by
        rw [Qj,nlt_le h1,hr,Q7,if_neg (by omega),if_neg h3];rfl
      rw [key]
      refine qB (fun h4=>⟨sv.2.eB (by omega),⟨sv.2.mono (by omega),sv.1.mono (by omega)⟩,qB (fun h5=>?_) fun h5=>?_⟩) fun h4=>⟨⟨sv.2.mono (by omega),sv.1.mono (by omega)⟩,qB (fun h5=>?_) fun h5=>?_⟩
      · rw [h5];rfl
      · have h4:=qW.1 h4
        have hneg:v.hi.rv<0:=by
          rcases sgn_rv hv.2 with ⟨a,b⟩|⟨a,b⟩|⟨a,b⟩<;>first | exact b | omega
        rw [h5,if_pos h4]
        refine narrow_part Xk absD_p (wide_ge hv hr h5) ?_ ?_ p0 (sl.mono (by omega)) ((Yd sv.2 hv.2).mono (by omega)) rfl
        · rw [rv_abs hv.2];exact fits_lt fv.2.1
        · rw [rv_abs hv.2,rv_neg hv.2,(QX hv.2).2 (by grind)]
      · rw [h5];rfl
      · have h4:=qJ.1 h4
        have hpos:0<v.lo.rv:=by
          rcases sgn_rv hv.1 with ⟨a,b⟩|⟨a,b⟩|⟨a,b⟩<;>first | exact b | omega
        rw [h5,if_neg h4]
        refine narrow_part Xk absD_p (wide_ge hv hr h5) ?_ ?_ p0 (sl.mono (by omega)) (sv.1.mono (by omega)) rfl
        · rw [rv_abs hv.1];exact fits_lt fv.1
        · rw [rv_abs hv.1,(QX hv.1).1 (by grind)]⟩
def sG2:List (FuncId×qU):=[(36,gMeets),(54,gHas),(55,gNarrow)] ++ sG1
theorem sG2_ok:SpecsOk Tryz.prog sG2:=⟨gMeets_ok,gHas_ok,gNarrow_ok,sG1_ok⟩
def Box3(w:World)(g o:Nat)(a b c:Value):Prop :=
  (w.cell? ⟨g,o,none⟩=some a∧w.cell? ⟨g,o+1,none⟩=some b∧w.cell? ⟨g,o+2,none⟩=some c) ∧
  (w.frozen? ⟨g,o,none⟩=false∧w.frozen? ⟨g,o+1,none⟩=false∧w.frozen? ⟨g,o+2,none⟩=false)
theorem Box3.lt{w:World}{g o:Nat}{a b c:Value}(h:Box3 w g o a b c):g<w.heap.size:=World.block_lt_of_cell? w _ h.1.1
theorem Box3.below{w w':World}{g o:Nat}{a b c:Value}(h:Box3 w g o a b c)(hb:Below w.heap.size w w'):Box3 w' g o a b c:=by
  have hl:=h.lt
  have e:=bcell hb
  obtain ⟨⟨h1,h2,h3⟩,h4,h5,h6⟩:=h
  exact ⟨⟨(e.1 _ _ hl).trans h1,(e.1 _ _ hl).trans h2,(e.1 _ _ hl).trans h3⟩,(e.2 _ _ hl).trans h4,(e.2 _ _ hl).trans h5,(e.2 _ _ hl).trans h6⟩
theorem Box3.mid{w w':World}{B g o:Nat}{a b c:Value}(h:Box3 w g o a b c)(hb:Below B w w')(hl:g<B):Box3 w' g o a b c:=by
  obtain ⟨⟨h1,h2,h3⟩,h4,h5,h6⟩:=h
  exact ⟨⟨(hb.cell (p:=⟨g,o,none⟩) hl).trans h1,(hb.cell (p:=⟨g,o+1,none⟩) hl).trans h2,(hb.cell (p:=⟨g,o+2,none⟩) hl).trans h3⟩,(hb.frozen (p:=⟨g,o,none⟩) hl).trans h4,(hb.frozen (p:=⟨g,o+1,none⟩) hl).trans h5,(hb.frozen (p:=⟨g,o+2,none⟩) hl).trans h6⟩
theorem Box3.other{w:World}{g g' o:Nat}{a b c:Value}(h:Box3 w g 0 a b c)(hg:g≠g')(x:Value):Box3 (w.setCell ⟨g',o,none⟩ x) g 0 a b c:=by
  obtain ⟨⟨h1,h2,h3⟩,h4,h5,h6⟩:=h
  refine ⟨⟨?_,?_,?_⟩,?_,?_,?_⟩
  iterate 3 rw [World.cell?_setCell_other _ _ _ _ (by intro e;simp only [Addr.mk.injEq] at e;omega)];assumption
  all_goals rw [World.frozen?_setCell];assumption
theorem Box3.new(w:World)(a b c:Value)(t:TypeId):Box3 (w.alloc (.cells #[a,b,c] t)) w.heap.size 0 a b c:=by
  refine ⟨⟨?_,?_,?_⟩,?_,?_,?_⟩<;>go_simp
theorem Box3.set{w:World}{g:Nat}{a b c:Value}(h:Box3 w g 0 a b c)(a' b' c':Value) :
    Box3 (((w.setCell ⟨g,0,none⟩ a').setCell ⟨g,1,none⟩ b').setCell ⟨g,2,none⟩ c') g 0 a' b' c':=by
  obtain ⟨⟨h1,h2,h3⟩,h4,h5,h6⟩:=h
  simp only [Nat.zero_add] at h1 h2 h3 h4 h5 h6
  have n01:(⟨g,0,none⟩:Addr)≠⟨g,1,none⟩:=by simp
  have n02:(⟨g,0,none⟩:Addr)≠⟨g,2,none⟩:=by simp
  have n12:(⟨g,1,none⟩:Addr)≠⟨g,2,none⟩:=by simp
  refine ⟨⟨?_,?_,?_⟩,?_,?_,?_⟩
  · rw [World.cell?_setCell_other _ _ _ _ n02.symm,World.cell?_setCell_other _ _ _ _ n01.symm];exact World.cell?_setCell_same _ _ _ h1
  · rw [Nat.zero_add,World.cell?_setCell_other _ _ _ _ n12.symm];exact World.cell?_setCell_same _ _ _ ((World.cell?_setCell_other _ _ _ _ n01).trans h2)
  · rw [Nat.zero_add];exact World.cell?_setCell_same _ _ _ ((World.cell?_setCell_other _ _ _ _ n12).trans ((World.cell?_setCell_other _ _ _ _ n02).trans h3))
  all_goals rw [World.frozen?_setCell,World.frozen?_setCell,World.frozen?_setCell]
  all_goals assumption
theorem NatAt.set{B g o:Nat}{w:World}{v:Value}{xs:List Int}(h:NatAt B w v xs)(hg:g<B)(x:Value):NatAt B (w.setCell ⟨g,o,none⟩ x) v xs:=by
  obtain ⟨A,c,e,h1,h2,h3,h5,h4⟩:=h
  refine ⟨A,c,e,h1,h2,h3,h5,fun hp=>?_⟩
  obtain ⟨g',o',e,hB,hg',hc⟩:=h4 hp
  refine ⟨g',o',e,hB,by simpa using hg',fun j hj=>?_⟩
  rw [World.cell?_setCell_other _ _ _ _ (by intro e;simp only [Addr.mk.injEq] at e;omega),World.frozen?_setCell]
  exact hc j hj
abbrev put3(w:World)(g:Nat)(a b c:Value):World:=((w.setCell ⟨g,0,none⟩ a).setCell ⟨g,1,none⟩ b).setCell ⟨g,2,none⟩ c
theorem NatAt.put{B g:Nat}{w:World}{v:Value}{xs:List Int}(h:NatAt B w v xs)(hg:g<B)(a b c:Value):NatAt B (put3 w g a b c) v xs:=((h.set hg a).set hg b).set hg c
theorem Below.put{B g:Nat}{w0 w:World}(h:Below B w0 w)(hg:B≤g)(a b c:Value):Below B w0 (put3 w g a b c):=((h.setCell hg _).setCell hg _).setCell hg _
theorem results_dy{fn:Func}{p:Tmp}(h:fn.results = #[.cell p 27]){tmps:Array Value}{w:World}{g:Nat}{a b c:Value}(hp:tmps.getD p undef = .pointer (some ⟨g,0,none⟩))(hB:Box3 w g 0 a b c) :
    (results fn tmps).run Tryz.prog w = .ok (.agg #[a,b,c]) w:=by
  obtain ⟨⟨h1,h2,h3⟩,h4,h5,h6⟩:=hB
  simp only [Nat.zero_add] at h1 h2 h3 h4 h5 h6
  have hp':tmps[p]?.getD undef = .pointer (some ⟨g,0,none⟩):=by simpa using hp
  simp [results,h,hp',asAddr,go_sem,loadVar,h1,h2,h3]
theorem size_alloc(w:World)(o:Obj):(w.alloc o).heap.size=w.heap.size+1:=by simp
noncomputable abbrev cpW (w:World) (neg:Bool) (s:Value) (e:Int):World:=((w.alloc (.cells #[.bool neg,s,.int .i64 e] 27)).alloc (.cells #[.bool false,.slice none 0 0,.int .i64 0] 27)).alloc (.cells #[] 23)
theorem cp_below(w:World)(neg:Bool)(s:Value)(e:Int):Below w.heap.size w (cpW w neg s e):=below_plus (below_plus (qZ w _) _) _
theorem cp_size(w:World)(neg:Bool)(s:Value)(e:Int):(cpW w neg s e).heap.size=w.heap.size+3:=by simp [cpW]
theorem cp_row(w:World)(neg:Bool)(s:Value)(e:Int):(cpW w neg s e).ownsRow (w.heap.size+2) 23 1 (.slice (some ⟨w.heap.size+1+1,0,none⟩) 0 0) 0 []:=by
  refine ⟨rfl,.inr ⟨_,0,#[],rfl,Nat.le_refl _,?_,Nat.le_refl _,Nat.zero_le _,rfl,rfl⟩⟩
  have:=heap_alloc_new ((w.alloc (.cells #[.bool neg,s,.int .i64 e] 27)).alloc (.cells #[.bool false,.slice none 0 0,.int .i64 0] 27)) (.cells #[] 23)
  rwa [size_alloc,size_alloc] at this
theorem cp_box(w:World)(neg:Bool)(s:Value)(e:Int):Box3 (cpW w neg s e) w.heap.size 0 (.bool neg) s (.int .i64 e)∧Box3 (cpW w neg s e) (w.heap.size+1) 0 (.bool false) (.slice none 0 0) (.int .i64 0):=by
  refine ⟨((Box3.new w _ _ _ _).below (qZ _ _)).below (qZ _ _),?_⟩
  have:=(Box3.new (w.alloc (.cells #[.bool neg,s,.int .i64 e] 27)) (.bool false) (.slice none 0 0) (.int .i64 0) 27).below (qZ _ (.cells #[] 23))
  rwa [size_alloc] at this
set_option maxHeartbeats 800000 in
theorem copy4_calls{w:World}{s:Value}{d:Dx}(h:NatAt 0 w s d.xs) :
    Calls Tryz.prog 40 #[.agg #[.bool d.neg,s,.int .i64 d.e]] w fun e w'=>∃ s',e = .returned (.agg #[.bool d.neg,s',.int .i64 d.e])∧NatAt w.heap.size w' s' d.xs∧Below w.heap.size w w':=by
  have HN:=Lib.hid h
  clear h
  obtain ⟨neg,xs,e⟩:=d
  simp only at *
  go_enter Tryz.func40,Tryz.ntmps40
  go_wp2_with (at_builtin;refine ZR rfl (w.heap.size+2) rfl (.tmp 3) (.tmp 5) 25 rfl Tryz.underlying25 rfl rfl (cp_row _ _ _ _) (HN.out.below (cp_below _ _ _ _)) (Below.refl _ _) (by rw [cp_size];omega) ?_;intro v3 w3 hn3 hb3 _;obtain ⟨A3,c3,rfl,hh⟩:=hn3;have HN3:Hid (NatAt (w.heap.size+2) w3 (.slice A3 xs.length c3) xs):=Lib.hid ⟨A3,c3,rfl,hh⟩;have HB3:=Lib.hid hb3;have k1:=(cp_box w neg s e).1.mid hb3 (by omega);have k2:=(cp_box w neg s e).2.mid hb3 (by omega);obtain ⟨⟨a1,a2,a3⟩,a4,a5,a6⟩:=k1;obtain ⟨⟨b1,b2,b3⟩,b4,b5,b6⟩:=k2;simp only [Nat.zero_add] at a1 a2 a3 a4 a5 a6 b1 b2 b3 b4 b5 b6;clear hh hb3)
  refine bodyPost_ret (results_dy rfl rfl (Box3.set (Box3.other ⟨⟨b1,b2,b3⟩,b4,b5,b6⟩ (by omega) _) _ _ _)) rfl ?_
  have hb:=(((cp_below w neg s e).trans (HB3.out.mono (by omega))).setCell (p:=⟨w.heap.size,1,none⟩) (Nat.le_refl _) (.slice A3 xs.length c3))
  exact ⟨_,rfl,((HN3.out.set (g:=w.heap.size) (by omega) _).put (g:=w.heap.size+1) (by omega) _ _ _).mono (by omega),Below.put hb (by omega) _ _ _⟩
def JunkAt(n0:Nat)(w:World)(v:Value):Prop :=
  ∃ A n c,v = .slice A n c∧n≤c∧n≤17592186044415∧c≤9223372036854775807 ∧
    (0<n→∃ g o,A=some ⟨g,o,none⟩∧n0≤g∧g<w.heap.size∧∀ j,j<n→(∃ y,w.cell? ⟨g,o+j,none⟩=some (.int .u64 y))∧w.frozen? ⟨g,o+j,none⟩=false)
structure Jk (n0:Nat) (w w':World):Prop where
  below:Below n0 w w'
  size:w.heap.size≤w'.heap.size
  keep:∀ g o v,w.cell? ⟨g,o,none⟩=some v→w'.cell? ⟨g,o,none⟩=some v∨(∃ y,v = .int .u64 y)∧∃ y,w'.cell? ⟨g,o,none⟩=some (.int .u64 y)
  frz:∀ g o,g<w.heap.size→w'.frozen? ⟨g,o,none⟩=w.frozen? ⟨g,o,none⟩
theorem Jk.refl(n0:Nat)(w:World):Jk n0 w w:=⟨.refl _ _,Nat.le_refl _,fun _ _ _ h=>.inl h,fun _ _ _=>rfl⟩
theorem Jk.trans{n0:Nat}{a b c:World}(h:Jk n0 a b)(k:Jk n0 b c):Jk n0 a c where
  below:=h.below.trans k.below
  size:=Nat.le_trans h.size k.size
  keep:=fun g o v e=>by
    rcases h.keep g o v e with e1 | ⟨⟨y,rfl⟩,y',e1⟩
    · exact k.keep g o v e1
    · rcases k.keep g o _ e1 with e2 | ⟨_,y2,e2⟩
      · exact .inr ⟨⟨y,rfl⟩,y',e2⟩
      · exact .inr ⟨⟨y,rfl⟩,y2,e2⟩
  frz:=fun g o hg=>(k.frz g o (Nat.lt_of_lt_of_le hg h.size)).trans (h.frz g o hg)
theorem Jk.grow{n0:Nat}{w w':World}(h:Below w.heap.size w w')(hn:n0≤w.heap.size):Jk n0 w w' where
  below:=h.mono hn
  size:=h.size
  keep:=fun g o v e=>.inl ((h.cell (p:=⟨g,o,none⟩) (World.block_lt_of_cell? w _ e)).trans e)
  frz:=fun g o hg=>h.frozen (p:=⟨g,o,none⟩) hg
theorem Jk.set{n0 g o:Nat}{w:World}{y z:Int}(hg:n0≤g)(h:w.cell? ⟨g,o,none⟩=some (.int .u64 y)):Jk n0 w (w.setCell ⟨g,o,none⟩ (.int .u64 z)) where
  below:=(Below.refl _ _).setCell hg _
  size:=by simp
  keep:=fun g' o' v e=>by
    by_cases c:(⟨g',o',none⟩:Addr)=⟨g,o,none⟩
    · rw [c] at e ⊢
      rw [h] at e;cases e
      exact .inr ⟨⟨y,rfl⟩,z,World.cell?_setCell_same _ _ _ h⟩
    · exact .inl ((World.cell?_setCell_other _ _ _ _ (fun e=>c e.symm)).trans e)
  frz:=fun g' o' _=>World.frozen?_setCell _ _ _ _
theorem JunkAt.jk{n0:Nat}{w w':World}{v:Value}(h:JunkAt n0 w v)(k:Jk n0 w w'):JunkAt n0 w' v:=by
  obtain ⟨A,n,c,e,h1,h2,h3,h4⟩:=h
  refine ⟨A,n,c,e,h1,h2,h3,fun hp=>?_⟩
  obtain ⟨g,o,e,hg,hl,hc⟩:=h4 hp
  refine ⟨g,o,e,hg,Nat.lt_of_lt_of_le hl k.size,fun j hj=>?_⟩
  obtain ⟨⟨y,hy⟩,hf⟩:=hc j hj
  refine ⟨?_,(k.frz g (o+j) hl).trans hf⟩
  rcases k.keep g (o+j) _ hy with e | ⟨_,y',e⟩
  · exact ⟨y,e⟩
  · exact ⟨y',e⟩
theorem NatIn.junk{D:Nat→Prop}{n0:Nat}{w:World}{v:Value}{xs:List Int}(h:NatIn D w v xs)(hD:∀ g,D g→n0≤g):JunkAt n0 w v:=by
  obtain ⟨A,c,e,h1,h2,h3,h5,h4⟩:=h
  refine ⟨A,_,c,e,h1,h2.2,h2.1,fun hp=>?_⟩
  obtain ⟨g,o,e,hb,hg,hc⟩:=h4 hp
  exact ⟨g,o,e,hD g hb,hg,fun j hj=>⟨⟨_,(hc j hj).1⟩,(hc j hj).2⟩⟩
set_option maxHeartbeats 1600000 in
theorem YX{n0:Nat}{w:World}{v:Value}(h:JunkAt n0 w v):Calls Tryz.prog 41 #[v] w (fun e w'=>e = .returned (.tuple #[])∧Jk n0 w w'):=by
  obtain ⟨A,n,c,rfl,h1,h2,h3,h4⟩:=h
  have H4:=Lib.hid h4
  clear h4
  go_enter Tryz.func41,Tryz.ntmps41
  go_wp2
  go_loopw [5] (fun i wr=>∃ (k:Nat),k≤n∧i = .int .i64 k∧Jk n0 w wr) (fun i _=>n-(intOf i).toNat)
  case atStart=>exact ⟨0,by omega,rfl,Jk.refl _ _⟩
  case round =>
    obtain ⟨k,hk,rfl,hj⟩:=hrel
    have HJ:=Lib.hid hj
    clear hj
    by_cases hlt:k<n
    · obtain ⟨g,o,rfl,hg,hl,hc⟩:=H4.out (by omega)
      obtain ⟨⟨y0,hy0⟩,hf0⟩:=hc k hlt
      have hf:wr.frozen? ⟨g,o+k,none⟩=false:=(HJ.out.frz g (o+k) hl).trans hf0
      obtain ⟨y,hy⟩:∃ y,wr.cell? ⟨g,o+k,none⟩=some (.int .u64 y):=by
        rcases HJ.out.keep g (o+k) _ hy0 with e | ⟨_,y',e⟩
        · exact ⟨y0,e⟩
        · exact ⟨y',e⟩
      have hs:Jk n0 w (wr.setCell ⟨g,o+k,none⟩ (.int .u64 77)):=HJ.out.trans (Jk.set hg hy)
      have HS:=Lib.hid hs
      clear hs hc hy0 hf0
      have hdec:decide ((k:Int)<(n:Int))=true:=by simp;omega
      go_wp2
      go_roundw
      case rel=>exact ⟨k+1,by omega,by go_num,HS.out⟩
      case measure=>simp [intOf];omega
    · have hdec:decide ((k:Int)<(n:Int))=false:=by simp;omega
      go_wp2
      exact bodyPost_end (results_none rfl _ _ _) rfl ⟨rfl,HJ.out⟩
theorem short3_step{r a d:Int}(r0:0≤r)(rd:r<d)(d1:d≤4294967296)(wa:zR a) :
    (r*4294967296+a/4294967296)/d*4294967296+((r*4294967296+a/4294967296) % d*4294967296+a % 4294967296)/d=(r*18446744073709551616+a)/d ∧
    ((r*4294967296+a/4294967296) % d*4294967296+a % 4294967296) % d=(r*18446744073709551616+a) % d ∧
    r*4294967296+a/4294967296<18446744073709551616∧(r*4294967296+a/4294967296) % d*4294967296+a % 4294967296<18446744073709551616 ∧
    (r*18446744073709551616+a)/d<18446744073709551616∧(r*4294967296+a/4294967296)/d<4294967296:=by
  obtain ⟨a0,a1⟩:=wa
  have hd:0<d:=by omega
  have hh:r*18446744073709551616+a=(r*4294967296+a/4294967296)*4294967296+a % 4294967296:=by omega
  have hlt:(r*18446744073709551616+a)/d<18446744073709551616:=Int.ediv_lt_of_lt_mul hd (by
    have:=imR (show r+1≤d by omega) (show (0:Int)≤18446744073709551616 by omega)
    rw [Int.add_mul] at this;rw [Int.mul_comm 18446744073709551616];omega)
  have hlt2:(r*4294967296+a/4294967296)/d<4294967296:=Int.ediv_lt_of_lt_mul hd (by
    have:=imR (show r+1≤d by omega) (show (0:Int)≤4294967296 by omega)
    rw [Int.add_mul] at this;rw [Int.mul_comm 4294967296];omega)
  have hm0:=Int.emod_nonneg (r*4294967296+a/4294967296) (show d≠0 by omega)
  have hm1:=Int.emod_lt_of_pos (r*4294967296+a/4294967296) hd
  have hb:r*4294967296+a/4294967296<18446744073709551616:=by omega
  have hdm:=Int.mul_ediv_add_emod (r*4294967296+a/4294967296) d
  rw [hh]
  generalize r*4294967296+a/4294967296=h at *
  have e:h*4294967296+a % 4294967296=(h % d*4294967296+a % 4294967296)+d*(h/d*4294967296):=by
    conv=>lhs;rw [←hdm]
    rw [Int.add_mul,Int.mul_assoc];omega
  refine ⟨?_,?_,hb,by omega,?_,hlt2⟩
  · rw [e,Int.add_mul_ediv_left _ _ (by omega),Int.add_comm]
  · rw [e,Int.add_mul_emod_self_left]
  · rw [←hh];exact hlt
set_option maxRecDepth 100000 in
set_option maxHeartbeats 3200000 in
theorem short3_calls{B:Nat}{w:World}{v:Value}{xs:List Int}{d:Int}(h:NatAt B w v xs)(wd:zR d)(hd:0<d)(hd2:d≤4294967296) :
    Calls Tryz.prog 206 #[v,.int .u64 d] w (RNatW w (ws (val xs/d)) (val xs % d)):=by
  obtain ⟨A1,L1,c1,g1,o1,rfl,a1,k1,q1,l1,hg1,hc1,e1,wx⟩:=h.sub
  have WD:Hid (zR d):=wd
  have b1:L1≤17592186044415:=by have:=e1.out;omega
  have hmk:=Z5 25 Tryz.underlying25 L1 (by omega)
  clear h wd
  go_enter Tryz.func206,Tryz.ntmps206
  go_wp2
  go_loopw [7,8] (fun r i wr=>∃ (k:Nat) (ts:List Int) (rr:Int),k≤L1∧i = .int .i64 ((k:Int)-1)∧r = .int .u64 rr∧w.heap.size<wr.heap.size∧RowAt wr w.heap.size (List.replicate k 0 ++ ts)∧Below w.heap.size w wr∧Hid (ts.length+k=L1∧Words ts∧zR rr∧rr<d∧val ts*d+rr=val (xs.drop k))) (fun _ i _=>(intOf i+1).toNat)
  case atStart =>
    refine ⟨L1,[],0,Nat.le_refl _,rfl,rfl,by simp,?_,qZ _ _,by simp,Words.nil,⟨by omega,by omega⟩,hd,?_⟩
    · rw [List.append_nil];exact RowAt.made _ _
    · rw [List.drop_of_length_le (by rw [e1.out];omega)];simp [val]
  case round =>
    obtain ⟨k,ts,rr,hk,rfl,rfl,hG,hrow,hbel,hr⟩:=hrel
    obtain ⟨r1,r2,r3,r4,r5⟩:=hr.out
    by_cases h0:0<k
    · obtain ⟨j,rfl⟩:∃ j,k=j+1:=⟨k-1,by omega⟩
      obtain rfl:=a1 (by omega)
      have hg1':=hg1 (by omega)
      have hxj:wr.cell? ⟨g1,o1+j,none⟩=some (.int .u64 (nth xs j)):=((bcell hbel).1 _ _ hg1').trans (hc1 j (by omega))
      have e0:((j+1:Nat):Int)-1=(j:Int):=by omega
      rw [e0]
      clear e0
      have wxj:Hid (zR (nth xs j)):=wx.out.nth j
      have hlen:(List.replicate (j+1) (0:Int) ++ ts).length=L1:=by simp;omega
      obtain ⟨w1,w2,w3⟩:=div64_word r3 wxj.out WD.out r4
      have hst:=short_step hd (show j<xs.length by rw [e1.out];omega) r5
      obtain ⟨s1,s2,s3,s4,s5,s6⟩:=short3_step r3.1 r4 hd2 wxj.out
      rw [←s1,←s2] at hst
      rw [←s1] at w1
      rw [←s2] at w2 w3
      have a0:=wxj.out.1
      have a1':=wxj.out.2
      have rr0:=r3.1
      have rr1:=r3.2
      have m0:=Int.emod_nonneg (rr*4294967296+nth xs j/4294967296) (show d≠0 by omega)
      have m1:=Int.emod_lt_of_pos (rr*4294967296+nth xs j/4294967296) hd
      have q0:=Int.ediv_nonneg (show 0≤rr*4294967296+nth xs j/4294967296 by omega) (show 0≤d by omega)
      have n0:=Int.ediv_nonneg (show 0≤(rr*4294967296+nth xs j/4294967296) % d*4294967296+nth xs j % 4294967296 by omega) (show 0≤d by omega)
      have hout:∀ n,(wr.drewN n).cell? ⟨w.heap.size,j,none⟩=some (.int .u64 (nth (List.replicate (j+1) 0 ++ ts) j)):=fun n=>(hrow.draws n).cell (by omega)
      have hfr:∀ n,(wr.drewN n).frozen? ⟨w.heap.size,j,none⟩=false:=fun n=>(hrow.draws n).frozen _
      have hnew':Hid (∀ n Q,RowAt ((wr.drewN n).setCell ⟨w.heap.size,j,none⟩ (.int .u64 Q)) w.heap.size (List.replicate j 0 ++ (Q :: ts))):=fun n Q=>by
        have:=(hrow.draws n).set j Q
        rw [List.replicate_succ',List.append_assoc,List.set_append_right _ _ (by simp),List.length_replicate,Nat.sub_self] at this
        exact this
      have hbel2:Hid (∀ n Q,Below w.heap.size w ((wr.drewN n).setCell ⟨w.heap.size,j,none⟩ (.int .u64 Q))):=fun n Q=>(QI hbel n).setCell (Nat.le_refl _) _
      have HT:Hid (_∧_∧_∧_∧_∧_):=⟨hst,w1,w2,w3,r1,r2⟩
      clear hr r1 r2 r3 r4 r5 w1 w2 w3 hst hrow hbel hlen s1 s2 s5
      generalize nth xs j=aj at *
      go_wp2
      have H0:0≤rr*4294967296+aj/4294967296:=by omega
      generalize rr*4294967296+aj/4294967296=H at *
      have k0:0≤H % d*4294967296+aj % 4294967296:=by omega
      have hw:IntKind.u64.wrap (H % d*4294967296)=H % d*4294967296:=by rw [Zv];exact Int.emod_eq_of_lt (by omega) (by omega)
      have hm:H.tmod d=H % d:=Int.tmod_eq_emod_of_nonneg H0
      go_quiet (fail)
      clear hw hm
      generalize H % d*4294967296+aj % 4294967296=K at *
      have kd:=Int.emod_nonneg K (show d≠0 by omega)
      have hq:=(Lib.hid (HT.out.2.1.2))
      have hd0:¬ d=0:=by omega
      have e2:IntKind.u64.wrap (H.tdiv d)=H/d:=IntWalk.u64_quo _ _ ⟨H0,by omega,by omega⟩
      have e3:IntKind.u64.wrap (K.tdiv d)=K/d:=IntWalk.u64_quo _ _ ⟨k0,by omega,by omega⟩
      have hw:IntKind.u64.wrap (H/d*4294967296)=H/d*4294967296:=by rw [Zv];exact Int.emod_eq_of_lt (by omega) (by omega)
      have hw2:IntKind.u64.wrap (H/d*4294967296+K/d)=H/d*4294967296+K/d:=by rw [Zv];exact Int.emod_eq_of_lt (by omega) (by have:=hq.out;omega)
      have hjL:j<L1:=by omega
      go_wp2
      go_still_tail 11,(by kernel_rfl)
      change wpList _ _ _ _ _ (wr.drewN nq).drew
      have hout':(wr.drewN nq).drew.cell? ⟨w.heap.size,j,none⟩=some (.int .u64 (nth (List.replicate (j+1) 0 ++ ts) j)):=hout nq
      have hfr':(wr.drewN nq).drew.frozen? ⟨w.heap.size,j,none⟩=false:=hfr nq
      have hG2:w.heap.size<(wr.drewN nq).drew.heap.size:=hG
      have hnew2:Hid (∀ Q,RowAt ((wr.drewN nq).drew.setCell ⟨w.heap.size,j,none⟩ (.int .u64 Q)) w.heap.size (List.replicate j 0 ++ (Q :: ts))):=fun Q=>hnew'.out nq Q
      have hbel3:Hid (∀ Q,Below w.heap.size w ((wr.drewN nq).drew.setCell ⟨w.heap.size,j,none⟩ (.int .u64 Q))):=fun Q=>(hbel2.out nq Q).drew
      clear hout hfr hnew' hbel2 hxj hw hw2 e2 e3
      generalize (wr.drewN nq).drew=wz at *
      go_wp2
      go_roundw
      case rel =>
        obtain ⟨t1,t2,t3,t4,t5,t6⟩:=HT.out
        exact ⟨j,_ :: ts,K % d,by omega,rfl,rfl,by simpa using hG2,hnew2.out _,hbel3.out _,by simp;omega,t6.cons t2,t3,t4,t1⟩
      case measure=>simp [intOf]
    · obtain rfl:k=0:=by omega
      have hn1:Hid (NatAt w.heap.size wr (.slice (some ⟨w.heap.size,0,none⟩) L1 L1) ts):=by
        rw [List.replicate_zero,List.nil_append] at hrow
        exact hrow.nat (Nat.le_refl _) r2 _ (by omega) (by omega)
      have hval:Hid (val ts=val xs/d∧rr=val xs % d):=by
        rw [List.drop_zero] at r5
        have h0:=r3.1
        refine ⟨?_,?_⟩
        · rw [←r5,Int.add_comm,Int.add_mul_ediv_right _ _ (by omega),Int.ediv_eq_zero_of_lt h0 r4,Int.zero_add]
        · rw [←r5,Int.add_comm,Int.add_mul_emod_self_right,Int.emod_eq_of_lt h0 r4]
      have hbel2:Hid (Below w.heap.size w wr):=hbel
      clear hr r1 r2 r3 r4 r5 hrow hbel
      go_wp2_with fail
      refine (QP hn1.out).mono ?_
      rintro e w' ⟨v',rfl,hn',hb'⟩
      have HB:=Lib.hid hb'
      clear hb'
      go_wp2
      go_ret2
      refine ⟨v',by rw [←hval.out.2];rfl,?_,zI hbel2.out HB.out⟩
      rw [←hval.out.1]
      exact NatAt.mono hn' hbel2.out.size
theorem short3u_calls{B:Nat}{w:World}{v:Value}{xs:List Int}{d:Int}(h:NatAt B w v xs)(wd:zR d)(hd:0<d)(hd2:d≤4294967296) :
    Calls Tryz.prog 192 #[v,.int .u64 d] w (RNat w (ws (val xs/d))):=by
  go_enter Tryz.func192,Tryz.ntmps192
  go_wp2_with fail
  refine (short3_calls h wd hd hd2).mono ?_
  rintro e w' ⟨v',rfl,hn,hb⟩
  have HB:=Lib.hid hb
  clear hb
  go_wp2
  go_ret
  exact ⟨v',rfl,hn,HB.out⟩
def Rp(p:Int)(x:Rat):Prop:=∃ s e:Int,x=(s:Rat)*p2 e∧(s:Rat)<p2 p∧-(p2 p)<(s:Rat)
def Dn(p:Int)(q r:Rat):Prop:=Rp p r∧r≤q∧∀ t,Rp p t→t≤q→t≤r
def Up(p:Int)(q r:Rat):Prop:=Rp p r∧q≤r∧∀ t,Rp p t→q≤t→r≤t
theorem Rp.neg{p:Int}{x:Rat}:Rp p x→Rp p (-x)
  | ⟨s,e,h,h1,h2⟩=>⟨-s,e,by rw [h,Rat.intCast_neg,Rat.neg_mul],by rw [Rat.intCast_neg];grind,by rw [Rat.intCast_neg];grind⟩
theorem Rp.zero(p:Int):Rp p 0:=by have:=qL p;exact ⟨0,0,by simp,by simpa using this,by simp;grind⟩
theorem Up.neg{p:Int}{q r:Rat}(h:Up p q r):Dn p (-q) (-r) :=
  ⟨h.1.neg,by have:=h.2.1;grind,fun t ht hq=>by have:=h.2.2 (-t) ht.neg (by grind);grind⟩
theorem Dn.neg{p:Int}{q r:Rat}(h:Dn p q r):Up p (-q) (-r) :=
  ⟨h.1.neg,by have:=h.2.1;grind,fun t ht hq=>by have:=h.2.2 (-t) ht.neg (by grind);grind⟩
theorem Dn.mono{p:Int}{q q' r r':Rat}(h:Dn p q r)(h':Dn p q' r')(hq:q≤q'):r≤r':=h'.2.2 r h.1 (by have:=h.2.1;grind)
theorem Up.mono{p:Int}{q q' r r':Rat}(h:Up p q r)(h':Up p q' r')(hq:q≤q'):r≤r':=h.2.2 r' h'.1 (by have:=h'.2.1;grind)
theorem Dn.uniq{p:Int}{q r r':Rat}(h:Dn p q r)(h':Dn p q r'):r=r':=Rat.le_antisymm (h.mono h' (by grind)) (h'.mono h (by grind))
theorem Up.uniq{p:Int}{q r r':Rat}(h:Up p q r)(h':Up p q r'):r=r':=Rat.le_antisymm (h.mono h' (by grind)) (h'.mono h (by grind))
theorem Dn.self{p:Int}{q:Rat}(h:Rp p q):Dn p q q:=⟨h,by grind,fun _ _ h=>h⟩
theorem Up.self{p:Int}{q:Rat}(h:Rp p q):Up p q q:=⟨h,by grind,fun _ _ h=>h⟩
theorem rp_grid{p j:Int}{t:Rat}(ht:Rp p t)(h:p2 (j+p-1)≤t):Mul2 j t:=by
  obtain ⟨s,e,rfl,h1,h2⟩:=ht
  have h3:p2 (j+p-1)<p2 (p+e):=by
    rw [Qb p e]
    have:=(Rat.mul_lt_mul_right (qL e)).2 h1
    grind
  have h4:=p2_lt_iff.1 h3
  exact ⟨s*2^(e-j).toNat,by rw [rcM,←zU (by omega),Rat.mul_assoc,p2_sub]⟩
theorem QA{a b:Int}:(a:Rat)<(b:Rat)↔a<b:=Rat.intCast_lt_intCast
theorem zG{a b:Int}:(a:Rat)≤(b:Rat)↔a≤b:=Rat.intCast_le_intCast
theorem QK{a b:Rat}(j:Int):a*p2 j<b*p2 j↔a<b:=Rat.mul_lt_mul_right (qL j)
theorem Qo{a b:Rat}(j:Int):a*p2 j≤b*p2 j↔a≤b:=by rw [←Rat.not_lt,←Rat.not_lt,QK]
theorem Mul2.near{j k:Int}{t:Rat}(h:Mul2 j t)(hl:t<((k+1:Int):Rat)*p2 j):t≤(k:Rat)*p2 j:=by
  obtain ⟨s,rfl⟩:=h
  rw [QK,QA] at hl
  rw [Qo,zG];omega
theorem dn_grid{p j k:Int}{q:Rat}(hp:1≤p)(h1:(k:Rat)*p2 j≤q)(h2:q<((k+1:Int):Rat)*p2 j)(h3:p2 (j+p-1)≤q)(h4:q<p2 (j+p)):Dn p q ((k:Rat)*p2 j):=by
  have e1:p2 (j+p)=p2 p*p2 j:=by rw [Int.add_comm,Qb]
  have e2:p2 (j+p-1)=((2^(p-1).toNat:Int):Rat)*p2 j:=by rw [←zU (by omega),←Qb];congr 1;omega
  have k1:(k:Rat)<p2 p:=by rw [←QK j,←e1];grind
  have k2:(2:Int)^(p-1).toNat<k+1:=by rw [←QA,←QK j,←e2];grind
  have k3:=two_pow_pos (p-1).toNat
  have k4:(0:Rat)≤(k:Rat):=by rw [show (0:Rat)=((0:Int):Rat) from rfl,zG];omega
  have p0:=qL p
  refine ⟨⟨k,j,rfl,k1,by grind⟩,h1,fun t ht hq=>?_⟩
  by_cases hc:p2 (j+p-1)≤t
  · exact (rp_grid ht hc).near (by grind)
  · have:((2^(p-1).toNat:Int):Rat)*p2 j≤(k:Rat)*p2 j:=by rw [Qo,zG];omega
    grind
theorem up_grid{p j k:Int}{q:Rat}(hp:1≤p)(h1:((k-1:Int):Rat)*p2 j<q)(h2:q≤(k:Rat)*p2 j)(h3:p2 (j+p-1)≤q)(h4:q≤p2 (j+p)):Up p q ((k:Rat)*p2 j):=by
  have e1:p2 (j+p)=((2^p.toNat:Int):Rat)*p2 j:=by rw [←zU (by omega),←Qb];congr 1;omega
  have k1:k-1<2^p.toNat:=by rw [←QA,←QK j,←e1];grind
  have q0:0<q:=by have:=qL (j+p-1);grind
  have k2:0<k:=by
    have:((0:Int):Rat)*p2 j<(k:Rat)*p2 j:=by rw [show ((0:Int):Rat)*p2 j=0 by simp];grind
    rwa [QK,QA] at this
  have p0:=qL p
  refine ⟨?_,h2,fun t ht hq=>?_⟩
  · by_cases hk:k=2^p.toNat
    · refine ⟨1,j+p,by rw [hk,e1];simp,?_,?_⟩
      · have:=p2_lt (a:=0) (b:=p) (by omega)
        rw [ZX] at this;exact this
      · have:((1:Int):Rat)=1:=rfl
        rw [this];grind
    · refine ⟨k,j,rfl,?_,?_⟩
      · rw [zU (by omega),QA];omega
      · have:((0:Int):Rat)<(k:Rat):=QA.2 k2
        have e0:((0:Int):Rat)=0:=rfl
        rw [e0] at this;grind
  · obtain ⟨s,rfl⟩:=rp_grid (j:=j) ht (by grind)
    have:((k-1:Int):Rat)*p2 j<(s:Rat)*p2 j:=by grind
    rw [QK,QA] at this
    rw [Qo,zG];omega
theorem rp_small{s e p:Int}(h0:0≤s)(h:(blen s:Int)≤p):Rp p ((s:Rat)*p2 e):=by
  refine ⟨s,e,rfl,?_,?_⟩
  · rw [zU (by omega),QA]
    have:=Q5 s
    have:=Qf (j:=blen s) (k:=p.toNat) (by omega)
    omega
  · have:=qL p
    have:((0:Int):Rat)≤(s:Rat):=zG.2 h0
    have e0:((0:Int):Rat)=0:=rfl
    rw [e0] at this;grind
theorem cutX_best{x:Dx}{p:Int}(hx:0≤x.m)(hodd:x.m≠0→x.m % 2=1)(hp:1≤p):Dn p x.rv (cutX x p false).rv∧Up p x.rv (cutX x p true).rv:=by
  unfold cutX
  by_cases hn:(blen x.m:Int)-p≤0
  · rw [if_pos hn,if_pos hn]
    have hr:Rp p x.rv:=by
      have:=rp_small (e:=x.e) hx (show (blen x.m:Int)≤p by omega)
      rcases (show 0≤x.rv∨x.rv≤0 by grind) with h | h
      · rw [(QX hx).1 h];exact this
      · have e:=(QX hx).2 h
        rw [show x.rv = -((x.m:Rat)*p2 x.e) by grind];exact this.neg
    exact ⟨.self hr,.self hr⟩
  · rw [if_neg hn,if_neg hn]
    obtain ⟨n,hN⟩:∃ n:Int,(blen x.m:Int)-p=n:=⟨_,rfl⟩
    rw [hN] at hn ⊢
    have hm:0<x.m:=by
      by_cases hz:x.m=0
      · rw [hz] at hN;simp [blen] at hN;omega
      · omega
    have hp2:=two_pow_pos n.toNat
    have hev:(2:Int)^n.toNat=2*2^(n.toNat-1):=by
      obtain ⟨k,hk⟩:∃ k,n.toNat=k+1:=⟨n.toNat-1,by omega⟩
      rw [hk,Int.pow_succ,Nat.add_sub_cancel];omega
    have d1:=Int.mul_ediv_add_emod x.m (2^n.toNat)
    have d2:=Int.emod_nonneg x.m (show (2:Int)^n.toNat≠0 by omega)
    have d3:=Int.emod_lt_of_pos x.m hp2
    have d4:x.m % 2^n.toNat≠0:=by
      intro h0
      have h1:=hodd (by omega)
      rw [h0,Int.add_zero,hev,Int.mul_assoc] at d1
      omega
    generalize x.m/2^n.toNat=k at *
    have k0:0≤k:=by
      by_cases hk:0≤k
      · exact hk
      · have:2^n.toNat*k≤2^n.toNat*(-1):=imL (by omega) (by omega)
        omega
    have eq1:(x.m:Rat)*p2 x.e=((2^n.toNat*k+x.m % 2^n.toNat:Int):Rat)*p2 x.e:=by rw [d1]
    have ej:∀ c:Int,(c:Rat)*p2 (x.e+n)=((2^n.toNat*c:Int):Rat)*p2 x.e:=fun c=>by
      rw [Int.add_comm,Qb,zU (n:=n) (by omega),rcM];grind
    have b1:(k:Rat)*p2 (x.e+n)≤(x.m:Rat)*p2 x.e:=by rw [ej,eq1,Qo,zG];omega
    have b1':(k:Rat)*p2 (x.e+n)<(x.m:Rat)*p2 x.e:=by rw [ej,eq1,QK,QA];omega
    have b2:(x.m:Rat)*p2 x.e<((k+1:Int):Rat)*p2 (x.e+n):=by rw [ej,eq1,QK,QA,Int.mul_add,Int.mul_one];omega
    have a1:=amt_ge (e:=x.e) hm
    have a2:=amt_lt (m:=x.m) (e:=x.e)
    rw [show x.e+(blen x.m:Int)-1=x.e+n+p-1 by omega] at a1
    rw [show x.e+(blen x.m:Int)=x.e+n+p by omega] at a2
    have DN:=dn_grid hp b1 b2 a1 a2
    have UP:=up_grid (k:=k+1) hp (by rw [Int.add_sub_cancel];exact b1') (rlL b2) a1 (rlL a2)
    rw [show ((k+1:Int):Rat)=(k:Rat)+1 by rw [rcA];rfl] at UP
    cases hneg:x.neg with
    | false =>
      have e:x.rv=(x.m:Rat)*p2 x.e:=by unfold Dx.rv Dx.sm;rw [hneg];simp
      rw [Y9 (by simp;omega),Y9 (by simp;omega),e]
      simpa using ⟨DN,UP⟩
    | true =>
      have e:x.rv = -((x.m:Rat)*p2 x.e):=by unfold Dx.rv Dx.sm;rw [hneg];simp [Rat.neg_mul]
      rw [Y9 (by simp;omega),Y9 (by simp;omega),e]
      have:=UP.neg
      have h2:=DN.neg
      simpa [Rat.neg_mul] using ⟨this,h2⟩
theorem Xa{d:Dx}{p:Int}(hd:0≤d.m)(hp:1≤p):Dn p d.rv (cutD d p false).rv∧Up p d.rv (cutD d p true).rv:=by
  have:=cutX_best (x:=qC d) zZ (one_odd hd) hp
  rw [Qs hd] at this
  exact this
theorem Dn.move{p:Int}{A B u v z:Rat}(hA:A<u)(hB:u<B)(hA':A<v)(hB':v<B)(hno:∀ t,Rp p t→A<t→t<B→False)(h:Dn p u z):Dn p v z:=by
  have z1:z≤A:=by
    rcases (show z≤A∨A<z by grind) with h1 | h1
    · exact h1
    · exact (hno z h.1 h1 (by have:=h.2.1;grind)).elim
  refine ⟨h.1,by grind,fun t ht hq=>?_⟩
  rcases (show t≤A∨A<t by grind) with h1 | h1
  · exact h.2.2 t ht (by grind)
  · exact (hno t ht h1 (by grind)).elim
theorem Up.move{p:Int}{A B u v z:Rat}(hA:A<u)(hB:u<B)(hA':A<v)(hB':v<B)(hno:∀ t,Rp p t→A<t→t<B→False)(h:Up p u z):Up p v z:=by
  have z1:B≤z:=by
    rcases (show B≤z∨z<B by grind) with h1 | h1
    · exact h1
    · exact (hno z h.1 (by have:=h.2.1;grind) h1).elim
  refine ⟨h.1,by grind,fun t ht hq=>?_⟩
  rcases (show B≤t∨t<B by grind) with h1 | h1
  · exact h.2.2 t ht (by grind)
  · exact (hno t ht (by grind) h1).elim
theorem no_rp{p E Q:Int}(hQ:(2:Int)^(p-1).toNat≤Q)(hp:1≤p){t:Rat}(ht:Rp p t)(h1:(Q:Rat)*p2 (E+1)<t)(h2:t<((Q+1:Int):Rat)*p2 (E+1)):False:=by
  have e1:p2 (E+1+p-1)=((2^(p-1).toNat:Int):Rat)*p2 (E+1):=by rw [←zU (by omega),←Qb];congr 1;omega
  have e2:((2^(p-1).toNat:Int):Rat)*p2 (E+1)≤(Q:Rat)*p2 (E+1):=by rw [Qo,zG];exact hQ
  have:=(rp_grid (j:=E+1) ht (by grind)).near h2
  grind
theorem two_p2(E:Int):p2 (E+1)=2*p2 E:=by rw [Int.add_comm,Qb,p2_one]
theorem sticky_rv(Q:Int)(b:Bool)(E:Int):((Ze Q b:Int):Rat)*p2 E=(Q:Rat)*p2 (E+1)+(if b then p2 E else 0):=by
  unfold Ze
  rw [two_p2,rcA,rcM]
  have e2:((2:Int):Rat)=2:=rfl
  rw [e2]
  cases b<;>simp<;>grind
theorem sticky_best{p E Q:Int}{q:Rat}{b:Bool}(hp:1≤p)(hQ:(2:Int)^(p-1).toNat≤Q)(h1:b=false→q=(Q:Rat)*p2 (E+1))(h2:b=true→(Q:Rat)*p2 (E+1)<q∧q<((Q+1:Int):Rat)*p2 (E+1)) :
    (∀ z,Dn p (((Ze Q b:Int):Rat)*p2 E) z→Dn p q z)∧(∀ z,Up p (((Ze Q b:Int):Rat)*p2 E) z→Up p q z):=by
  rw [sticky_rv]
  cases b with
  | false=>simp only [Bool.false_eq_true,if_false,Rat.add_zero];rw [←h1 rfl];exact ⟨fun _ h=>h,fun _ h=>h⟩
  | true =>
    obtain ⟨a1,a2⟩:=h2 rfl
    simp only [if_true]
    have p0:=qL E
    have e1:((Q+1:Int):Rat)*p2 (E+1)=(Q:Rat)*p2 (E+1)+2*p2 E:=by
      rw [rcA,two_p2]
      have e2:((1:Int):Rat)=1:=rfl
      rw [e2];grind
    have hno:∀ t,Rp p t→(Q:Rat)*p2 (E+1)<t→t<((Q+1:Int):Rat)*p2 (E+1)→False:=fun t ht k1 k2=>no_rp hQ hp ht k1 k2
    exact ⟨fun z h=>h.move (A:=(Q:Rat)*p2 (E+1)) (B:=((Q+1:Int):Rat)*p2 (E+1)) (by grind) (by grind) a1 a2 hno,fun z h=>h.move (A:=(Q:Rat)*p2 (E+1)) (B:=((Q+1:Int):Rat)*p2 (E+1)) (by grind) (by grind) a1 a2 hno⟩
theorem sm_amt(d:Dx):d.rv=(if d.neg then -1 else 1)*((d.m:Rat)*p2 d.e):=by
  unfold Dx.rv Dx.sm
  cases d.neg<;>simp [Rat.neg_mul]
theorem cast_ne{a:Int}(h:0<a):(0:Rat)<(a:Rat):=by
  have:=QA.2 h
  have e0:((0:Int):Rat)=0:=rfl
  rwa [e0] at this
theorem over_best{a b:Dx}{p:Int}{q:Rat}(ha:0≤a.m)(hb:0≤b.m)(hb0:b.m≠0)(hp:1≤p)(hq:q*b.rv=a.rv):Dn p q (Qc a b p false).rv∧Up p q (Qc a b p true).rv:=by
  unfold Qc overX
  have m1:=zZ (d:=a)
  have m2:=zZ (d:=b)
  have m20:(qC b).m≠0:=fun h=>hb0 ((Zw hb).1 h)
  rw [←Qs ha,←Qs hb] at hq
  generalize qC a=x at *
  generalize qC b=y at *
  have ypos:0<y.m:=by omega
  by_cases hx0:x.m=0
  · rw [if_pos hx0,if_pos hx0]
    have e0:x.rv=0:=Ye hx0
    have y0:y.rv≠0:=by
      rw [sm_amt]
      have:=Rat.mul_pos (cast_ne ypos) (qL y.e)
      cases y.neg<;>simp<;>grind
    have q0:q=0:=by
      rw [e0] at hq
      rcases Rat.mul_eq_zero.1 hq with h | h
      · exact h
      · exact absurd h y0
    rw [q0,show (⟨false,[],0⟩:Dx).rv=0 from Ye rfl]
    exact ⟨.self (.zero p),.self (.zero p)⟩
  · rw [if_neg hx0,if_neg hx0]
    have xpos:0<x.m:=by omega
    obtain ⟨k,hk⟩:∃ k:Int,max (p+2+(blen y.m:Int)-(blen x.m:Int)) 0=k:=⟨_,rfl⟩
    rw [hk]
    have pk:=two_pow_pos k.toNat
    have hM:0<x.m*2^k.toNat:=Int.mul_pos xpos pk
    have hMb:blen (x.m*2^k.toNat)=blen x.m+k.toNat:=Ql xpos _
    have g1:=YT hM
    have g2:=Q5 y.m
    obtain ⟨M,hMe⟩:∃ M,x.m*2^k.toNat=M:=⟨_,rfl⟩
    rw [hMe] at hM hMb g1 ⊢
    have hQ:(2:Int)^(p-1).toNat≤M/y.m:=by
      rw [Int.le_ediv_iff_mul_le ypos]
      have bx:=Zm xpos
      have e1:(2:Int)^(blen M-1)=2^(blen M-1-blen y.m)*2^blen y.m:=by rw [←Int.pow_add];congr 1;omega
      have e2:=Qf (j:=(p-1).toNat) (k:=blen M-1-blen y.m) (by omega)
      have e3:(2:Int)^(p-1).toNat*y.m≤2^(blen M-1-blen y.m)*2^blen y.m:=by
        have:=two_pow_pos (p-1).toNat
        exact Int.mul_le_mul e2 (Int.le_of_lt g2) m2 (by have:=two_pow_pos (blen M-1-blen y.m);omega)
      omega
    have d1:=Int.mul_ediv_add_emod M y.m
    have d2:=Int.emod_nonneg M m20
    have d3:=Int.emod_lt_of_pos M ypos
    generalize M/y.m=Q at *
    obtain ⟨q',hq'⟩:∃ q':Rat,q'=(if (!(x.neg == y.neg)) then -1 else 1)*q:=⟨_,rfl⟩
    have hqa:q' * (y.m:Rat)=(M:Rat)*p2 (x.e-y.e-k):=by
      rw [sm_amt,sm_amt x] at hq
      have e1:p2 x.e=p2 (x.e-y.e-k)*(p2 y.e*p2 k):=by rw [←Qb,←Qb];congr 1;omega
      have e2:(M:Rat)=(x.m:Rat)*p2 k:=by rw [←hMe,rcM,←zU (by omega)]
      have h1:q' * ((y.m:Rat)*p2 y.e)=(x.m:Rat)*p2 x.e:=by
        rw [hq']
        cases hx:x.neg<;>cases hy:y.neg<;>rw [hx,hy] at hq<;>simp at hq ⊢<;>grind
      rw [e1] at h1
      have p0:=qL y.e
      have h2:(q' * (y.m:Rat))*p2 y.e=((M:Rat)*p2 (x.e-y.e-k))*p2 y.e:=by rw [e2];grind
      have h3:q' * (y.m:Rat)≤(M:Rat)*p2 (x.e-y.e-k):=by rw [←Qo y.e];grind
      have h4:(M:Rat)*p2 (x.e-y.e-k)≤q' * (y.m:Rat):=by rw [←Qo y.e];grind
      exact Rat.le_antisymm h3 h4
    have y0:=cast_ne ypos
    have cmp:∀ c:Int,(c:Rat)*p2 (x.e-y.e-k)*(y.m:Rat)=((y.m*c:Int):Rat)*p2 (x.e-y.e-k):=fun c=>by rw [rcM];grind
    have key:=sticky_best (p:=p) (E:=x.e-y.e-k-1) (Q:=Q) (q:=q') (b:=decide (M % y.m≠0)) hp hQ (fun hb=>by
        have hr:M % y.m=0:=by simpa using hb
        rw [hr,Int.add_zero] at d1
        rw [show x.e-y.e-k-1+1=x.e-y.e-k by omega]
        have e:=cmp Q
        rw [d1,←hqa] at e
        have h3:q'≤(Q:Rat)*p2 (x.e-y.e-k):=by rw [←Rat.not_lt,←Rat.mul_lt_mul_right y0];grind
        have h4:(Q:Rat)*p2 (x.e-y.e-k)≤q':=by rw [←Rat.not_lt,←Rat.mul_lt_mul_right y0];grind
        exact Rat.le_antisymm h3 h4) (fun hb=>by
        have hr:M % y.m≠0:=by simpa using hb
        rw [show x.e-y.e-k-1+1=x.e-y.e-k by omega]
        constructor
        · rw [←Rat.mul_lt_mul_right y0,cmp,hqa,QK,QA];omega
        · rw [←Rat.mul_lt_mul_right y0,cmp,hqa,QK,QA,Int.mul_add,Int.mul_one];omega)
    have hS:=(sticky_blen (q:=Q) (b:=decide (M % y.m≠0)) (by have:=two_pow_pos (p-1).toNat;omega)).1
    have best:=Xa (d:=mkD (!(x.neg == y.neg)) (Ze Q (decide (M % y.m≠0))) (x.e-y.e-k-1)) mkD_p hp
    rw [Y9 hS] at best
    cases hs:(!(x.neg == y.neg)) with
    | false =>
      rw [hs] at best hq'
      simp only [Bool.false_eq_true,if_false] at best hq'
      have:q'=q:=by grind
      rw [this] at key
      exact ⟨key.1 _ best.1,key.2 _ best.2⟩
    | true =>
      rw [hs] at best hq'
      simp only [if_true,Rat.intCast_neg,Rat.neg_mul] at best hq'
      have e1:q = -q':=by grind
      have b1:=best.1.neg
      have b2:=best.2.neg
      rw [Rat.neg_neg] at b1 b2
      have c1:=(key.2 _ b1).neg
      have c2:=(key.1 _ b2).neg
      rw [Rat.neg_neg] at c1 c2
      rw [e1]
      exact ⟨c1,c2⟩
theorem lin_le{a b x c:Rat}(h1:a≤x)(h2:x≤b):∃ x0,(x0=a∨x0=b)∧x0*c≤x*c:=by
  rcases (show 0≤c∨c≤0 by grind) with h | h
  · exact ⟨a,.inl rfl,rmR h1 h⟩
  · refine ⟨b,.inr rfl,?_⟩
    have:=rmR h2 (show 0≤-c by grind)
    grind
theorem corner_le{a b c d x y:Rat}(h1:a≤x)(h2:x≤b)(h3:c≤y)(h4:y≤d):∃ x0 y0,(x0=a∨x0=b)∧(y0=c∨y0=d)∧x0*y0≤x*y:=by
  obtain ⟨y0,k1,k2⟩:=lin_le (c:=x) h3 h4
  obtain ⟨x0,k3,k4⟩:=lin_le (c:=y0) h1 h2
  exact ⟨x0,y0,k3,k1,by grind⟩
theorem corner_ge{a b c d x y:Rat}(h1:a≤x)(h2:x≤b)(h3:c≤y)(h4:y≤d):∃ x0 y0,(x0=a∨x0=b)∧(y0=c∨y0=d)∧x*y≤x0*y0:=by
  obtain ⟨x0,y0,k1,k2,k3⟩:=corner_le (a:=-b) (b:=-a) (x:=-x) (show -b≤-x by grind) (by grind) h3 h4
  refine ⟨-x0,y0,by rcases k1 with h | h<;>rw [h]<;>simp,k2,by grind⟩
def Qg(a:Nat→Rat):Nat→Rat
  | 0=>0
  | n+1=>Qg a n+a n
theorem Q8{a b:Nat→Rat}:∀ {n:Nat},(∀ i,i<n→a i=b i)→Qg a n=Qg b n
  | 0,_=>rfl
  | n+1,h=>by rw [Qg,Qg,Q8 (fun i hi=>h i (by omega)),h n (by omega)]
theorem sumTo_add(a b:Nat→Rat):∀ n,Qg (fun i=>a i+b i) n=Qg a n+Qg b n
  | 0=>by show (0:Rat)=0+0;grind
  | n+1=>by rw [Qg,Qg,Qg,sumTo_add a b n];grind
theorem YH(c:Rat)(a:Nat→Rat):∀ n,Qg (fun i=>c*a i) n=c*Qg a n
  | 0=>by simp [Qg]
  | n+1=>by rw [Qg,Qg,YH c a n];grind
theorem Ys(a:Nat→Rat):∀ n,Qg a (n+1)=a 0+Qg (fun i=>a (i+1)) n
  | 0=>by show (0:Rat)+a 0=a 0+0;grind
  | n+1=>by rw [Qg,Ys a n,Qg];grind
def Enc(s:Nat→Rat)(lo hi:Rat):Prop:=∀ e:Rat,0<e→∃ N,∀ n,N≤n→lo-e≤s n∧s n≤hi+e
theorem Enc.wide{s:Nat→Rat}{lo hi lo' hi':Rat}(h:Enc s lo hi)(h1:lo'≤lo)(h2:hi≤hi'):Enc s lo' hi':=fun e he=>by
  obtain ⟨N,k⟩:=h e he
  exact ⟨N,fun n hn=>by have:=k n hn;exact ⟨by grind,by grind⟩⟩
theorem Enc.meets{s:Nat→Rat}{a b c d:Rat}(h:Enc s a b)(k:Enc s c d):a≤d:=by
  rcases (show a≤d∨d<a by grind) with h0 | h0
  · exact h0
  · obtain ⟨N,h1⟩:=h ((a-d)/3) (by grind)
    obtain ⟨M,k1⟩:=k ((a-d)/3) (by grind)
    have p:=(h1 (max N M) (by omega)).1
    have q:=(k1 (max N M) (by omega)).2
    grind
theorem Enc.self{s:Nat→Rat}{a b:Rat}(h:Enc s a b):a≤b:=h.meets h
def Near(s t:Nat→Rat):Prop:=∀ e:Rat,0<e→∃ N,∀ n,N≤n→s n-t n≤e∧t n-s n≤e
theorem Near.trans{s t u:Nat→Rat}(h:Near s t)(k:Near t u):Near s u:=fun e he=>by
  obtain ⟨N,h1⟩:=h (e/2) (by grind)
  obtain ⟨M,k1⟩:=k (e/2) (by grind)
  exact ⟨max N M,fun n hn=>by
    have p:=h1 n (by omega)
    have q:=k1 n (by omega)
    exact ⟨by grind,by grind⟩⟩
theorem Enc.const(c:Rat):Enc (fun _=>c) c c:=fun e he=>⟨0,fun n _=>⟨by grind,by grind⟩⟩
theorem Enc.add{s t:Nat→Rat}{a b c d:Rat}(h:Enc s a b)(k:Enc t c d):Enc (fun n=>s n+t n) (a+c) (b+d):=fun e he=>by
  obtain ⟨N,h1⟩:=h (e/2) (by grind)
  obtain ⟨M,k1⟩:=k (e/2) (by grind)
  exact ⟨max N M,fun n hn=>by
    have p:=h1 n (by omega)
    have q:=k1 n (by omega)
    exact ⟨by grind,by grind⟩⟩
theorem Enc.neg{s:Nat→Rat}{a b:Rat}(h:Enc s a b):Enc (fun n=>-s n) (-b) (-a):=fun e he=>by
  obtain ⟨N,h1⟩:=h e he
  exact ⟨N,fun n hn=>by have p:=h1 n hn;exact ⟨by grind,by grind⟩⟩
def hf(k:Nat):Rat:=p2 (-(k:Int))
theorem hf_pos(k:Nat):0<hf k:=qL _
theorem hf_zero:hf 0=1:=ZX
theorem hf_succ(k:Nat):hf k=2*hf (k+1):=by
  unfold hf
  rw [show -(k:Int) = -((k+1:Nat):Int)+1 by omega,two_p2]
theorem hf_one:2*hf 1=1:=by rw [←hf_succ 0,hf_zero]
def Dec(A:Rat)(a:Nat→Rat):Prop:=∀ i,-(A*hf i)≤a i∧a i≤A*hf i
theorem Dec.nonneg{A:Rat}{a:Nat→Rat}(h:Dec A a):0≤A:=by
  have h0:=h 0
  rw [hf_zero] at h0;grind
theorem Dec.tail{B:Rat}{b:Nat→Rat}(h:Dec B b)(k:Nat):∀ d,Qg b (k+d)-Qg b k≤2*B*hf k-2*B*hf (k+d)∧-(2*B*hf k-2*B*hf (k+d))≤Qg b (k+d)-Qg b k
  | 0=>by constructor<;>grind
  | d+1=>by
    have ih:=h.tail k d
    have hd:=h (k+d)
    have e:B*hf (k+d)=2*(B*hf (k+(d+1))):=by rw [hf_succ (k+d),Nat.add_assoc];grind
    have e2:Qg b (k+(d+1))=Qg b (k+d)+b (k+d):=rfl
    rw [e2]
    generalize Qg b (k+d)=S at *
    constructor<;>grind
theorem Dec.tail_le{B:Rat}{b:Nat→Rat}(h:Dec B b){k n:Nat}(hk:k≤n):Qg b n-Qg b k≤2*B*hf k∧-(2*B*hf k)≤Qg b n-Qg b k:=by
  obtain ⟨d,rfl⟩:∃ d,n=k+d:=⟨n-k,by omega⟩
  have t:=h.tail k d
  have:=rmN (rmN (show (0:Rat)≤2 by grind) h.nonneg) (rlL (hf_pos (k+d)))
  constructor<;>grind
def conv(a b:Nat→Rat)(m:Nat):Rat:=Qg (fun i=>a i*b (m-i)) (m+1)
theorem two_pow_sq:∀ n:Nat,4≤n→n*n≤2^n
  | n,h=>by
    induction n with
    | zero=>omega
    | succ n ih =>
      by_cases h4:n=3
      · subst h4;decide
      · have:=ih (by omega)
        have h2:2*n+1≤n*n:=by
          have:4*n≤n*n:=Nat.mul_le_mul_right n (by omega)
          omega
        rw [Nat.pow_succ,Nat.add_mul,Nat.mul_add];omega
theorem nhf_small(K:Rat)(e:Rat)(he:0<e):∃ N:Nat,∀ n:Nat,N≤n→(n:Rat)*(K*hf n)≤e:=by
  have sq:∀ n:Nat,4≤n→(n:Rat)*((n:Rat)*hf n)≤1:=fun n hn=>by
    have h1:=two_pow_sq n hn
    have h2:(((n*n:Nat):Int):Rat)≤((2^n:Int):Rat):=zG.2 (by exact_mod_cast h1)
    have h3:p2 (n:Int)=((2^n:Int):Rat):=p2_nat n
    have h4:=p2_neg (n:Int)
    have h5:(((n*n:Nat):Int):Rat)=(n:Rat)*(n:Rat):=by rw [Rat.intCast_natCast,Rat.natCast_mul]
    rw [h5,←h3] at h2
    have:=rmR h2 (rlL (hf_pos n))
    unfold hf at this ⊢
    grind
  obtain ⟨M,hM⟩:∃ M:Nat,K≤(M:Rat)*e:=by
    refine ⟨(K/e).ceil.toNat,?_⟩
    have h1:K/e≤((K/e).ceil:Rat):=Rat.le_ceil
    have h2:((K/e).ceil:Rat)≤(((K/e).ceil.toNat:Nat):Rat):=by
      rw [←Rat.intCast_natCast];exact zG.2 (by omega)
    have h3:=rmR (show K/e≤(((K/e).ceil.toNat:Nat):Rat) by grind) (rlL he)
    rw [Rat.div_mul_cancel (by grind)] at h3
    exact h3
  refine ⟨max M 4,fun n hn=>?_⟩
  have h1:=sq n (by omega)
  have h2:(M:Rat)≤(n:Rat):=by
    rw [←Rat.intCast_natCast,←Rat.intCast_natCast];exact zG.2 (by omega)
  have n0:(0:Rat)≤(n:Rat):=by
    rw [←Rat.intCast_natCast];exact (zG (a:=0)).2 (by omega)
  have h3:=rmR h2 (rlL he)
  have p:=hf_pos n
  have h4:=rmR (show K≤(n:Rat)*e by grind) (rmN n0 (rlL p))
  have h5:=rmR h1 (rlL he)
  grind
def dpw(t:Rat):Nat→Rat
  | 0=>1
  | k+1=>t*dpw t k*((k+1:Nat):Rat)⁻¹
theorem nat_pos(k:Nat):(0:Rat)<((k+1:Nat):Rat):=by
  rw [←Rat.intCast_natCast];exact (QA (a:=0)).2 (by omega)
theorem dpw_succ(t:Rat)(k:Nat):((k+1:Nat):Rat)*dpw t (k+1)=t*dpw t k:=by
  have h:=Rat.inv_mul_cancel ((k+1:Nat):Rat) (by have:=nat_pos k;grind)
  rw [dpw];grind
def alt(i:Nat):Rat:=if i % 2=0 then 1 else -1
theorem alt_add(i j:Nat):alt (i+j)=alt i*alt j:=by
  unfold alt
  rcases (show i % 2=0∨i % 2=1 by omega) with h | h<;>rcases (show j % 2=0∨j % 2=1 by omega) with k | k
  · rw [if_pos (show (i+j) % 2=0 by omega),if_pos h,if_pos k];grind
  · rw [if_neg (show ¬ (i+j) % 2=0 by omega),if_pos h,if_neg (show ¬ j % 2=0 by omega)];grind
  · rw [if_neg (show ¬ (i+j) % 2=0 by omega),if_neg (show ¬ i % 2=0 by omega),if_pos k];grind
  · rw [if_pos (show (i+j) % 2=0 by omega),if_neg (show ¬ i % 2=0 by omega),if_neg (show ¬ j % 2=0 by omega)];grind
theorem alt_succ(i:Nat):alt (i+1) = -alt i:=by rw [alt_add];show alt i * -1 = -alt i;grind
theorem alt_one(i:Nat):alt i=1∨alt i = -1:=by unfold alt;split<;>simp
def cosT(t:Rat)(i:Nat):Rat:=alt i*dpw t (2*i)
def sinT(t:Rat)(i:Nat):Rat:=alt i*dpw t (2*i+1)
def YO(t:Rat)(n:Nat):Rat:=Qg (cosT t) n
def Yt(t:Rat)(n:Nat):Rat:=Qg (sinT t) n
theorem hf_le{i j:Nat}(h:i≤j):hf j≤hf i:=Qz (by omega)
theorem dpw_neg(t:Rat):∀ k,dpw (-t) k=alt k*dpw t k
  | 0=>by show (1:Rat)=1*1;grind
  | k+1=>by rw [dpw,dpw,dpw_neg t k,alt_succ];grind
theorem alt_even(i:Nat):alt (2*i)=1:=if_pos (by omega)
theorem alt_odd(i:Nat):alt (2*i+1) = -1:=if_neg (by omega)
theorem cosS_neg(t:Rat)(n:Nat):YO (-t) n=YO t n:=Q8 fun i _=>by
  rw [cosT,dpw_neg,alt_even,Rat.one_mul];rfl
theorem sinS_neg(t:Rat)(n:Nat):Yt (-t) n = -Yt t n:=by
  have:Yt (-t) n=Qg (fun i=>(-1)*sinT t i) n:=Q8 fun i _=>by
    rw [sinT,dpw_neg,alt_odd,sinT];grind
  rw [this,YH];unfold Yt;grind
theorem dpw_zero(k:Nat):dpw 0 (k+1)=0:=by rw [dpw];simp
theorem cosS_zero(n:Nat):YO 0 (n+1)=1:=by
  induction n with
  | zero=>show (0:Rat)+1*1=1;grind
  | succ n ih =>
    show YO 0 (n+1)+cosT 0 (n+1)=1
    rw [ih,cosT,show 2*(n+1)=2*n+1+1 by omega,dpw_zero];grind
theorem Enc.mul{s t:Nat→Rat}{a b c d L H:Rat}(h:Enc s a b)(k:Enc t c d)(hc:∀ x y,(x=a∨x=b)→(y=c∨y=d)→L≤x*y∧x*y≤H):Enc (fun n=>s n*t n) L H:=fun e he=>by
  obtain ⟨M,hM⟩:∃ M:Rat,1≤M∧∀ x,(x=a∨x=b∨x=c∨x=d)→-M≤x∧x≤M:=by
    refine ⟨1+a*a+b*b+c*c+d*d,?_,fun x hx=>?_⟩
    · have h1:∀ z:Rat,0≤z*z:=fun z=>by
        rcases (show 0≤z∨0≤-z by grind) with q | q
        · exact rmN q q
        · have:=rmN q q;grind
      have:=h1 a;have:=h1 b;have:=h1 c;have:=h1 d;grind
    · have h1:∀ z:Rat,0≤z*z∧z≤1+z*z∧-z≤1+z*z:=fun z=>by
        have sq:∀ y:Rat,0≤y*y:=fun y=>by
          rcases (show 0≤y∨0≤-y by grind) with q | q
          · exact rmN q q
          · have:=rmN q q;grind
        have q0:=sq z
        have q1:=sq (z-1)
        have q2:=sq (z+1)
        refine ⟨q0,by grind,by grind⟩
      have:=h1 a;have:=h1 b;have:=h1 c;have:=h1 d
      rcases hx with rfl | rfl | rfl | rfl<;>constructor<;>grind
  have ip:0<(2*M+1)⁻¹:=Rat.inv_pos.2 (by grind)
  have im:=Rat.inv_mul_cancel (2*M+1) (by grind)
  obtain ⟨δ,d0,d1,d2⟩:∃ δ:Rat,0<δ∧δ≤1∧δ*(2*M+1)≤e:=by
    by_cases hq:e*(2*M+1)⁻¹≤1
    · exact ⟨e*(2*M+1)⁻¹,Rat.mul_pos he ip,hq,by rw [Rat.mul_assoc,im,Rat.mul_one];exact Rat.le_refl⟩
    · refine ⟨1,by grind,by grind,?_⟩
      have:=(Rat.mul_lt_mul_right (show 0<2*M+1 by grind)).2 (show 1<e*(2*M+1)⁻¹ by grind)
      rw [Rat.mul_assoc,im] at this;grind
  obtain ⟨N,h1⟩:=h δ d0
  obtain ⟨N',k1⟩:=k δ d0
  have near:∀ x y x' y',(x=a∨x=b)→(y=c∨y=d)→(x'=x-δ∨x'=x+δ)→(y'=y-δ∨y'=y+δ)→L-e≤x' * y'∧x' * y'≤H+e:=by
    intro x y x' y' hx hy hx' hy'
    have q:=hc x y hx hy
    have m1:=hM.2 x (by rcases hx with h | h<;>simp [h])
    have m2:=hM.2 y (by rcases hy with h | h<;>simp [h])
    have z1:=rmN (rlL d0) (show 0≤M-x by grind)
    have z2:=rmN (rlL d0) (show 0≤M+x by grind)
    have z3:=rmN (rlL d0) (show 0≤M-y by grind)
    have z4:=rmN (rlL d0) (show 0≤M+y by grind)
    have z5:=rmN (rlL d0) (show 0≤1-δ by grind)
    have z6:=rmN (rlL d0) (rlL d0)
    rcases hx' with rfl | rfl<;>rcases hy' with rfl | rfl<;>constructor<;>grind
  refine ⟨max N N',fun n hn=>?_⟩
  have p:=h1 n (by omega)
  have q:=k1 n (by omega)
  obtain ⟨x0,y0,l1,l2,l3⟩:=corner_le p.1 p.2 q.1 q.2
  obtain ⟨x1,y1,m1,m2,m3⟩:=corner_ge p.1 p.2 q.1 q.2
  have r1:L-e≤x0*y0:=by
    rcases l1 with rfl | rfl<;>rcases l2 with rfl | rfl
    · exact (near a c _ _ (.inl rfl) (.inl rfl) (.inl rfl) (.inl rfl)).1
    · exact (near a d _ _ (.inl rfl) (.inr rfl) (.inl rfl) (.inr rfl)).1
    · exact (near b c _ _ (.inr rfl) (.inl rfl) (.inr rfl) (.inl rfl)).1
    · exact (near b d _ _ (.inr rfl) (.inr rfl) (.inr rfl) (.inr rfl)).1
  have r2:x1*y1≤H+e:=by
    rcases m1 with rfl | rfl<;>rcases m2 with rfl | rfl
    · exact (near a c _ _ (.inl rfl) (.inl rfl) (.inl rfl) (.inl rfl)).2
    · exact (near a d _ _ (.inl rfl) (.inr rfl) (.inl rfl) (.inr rfl)).2
    · exact (near b c _ _ (.inr rfl) (.inl rfl) (.inr rfl) (.inl rfl)).2
    · exact (near b d _ _ (.inr rfl) (.inr rfl) (.inr rfl) (.inr rfl)).2
  exact ⟨by grind,by grind⟩
def tmf(f:Nat)(x:Rat):Nat→Rat
  | 0=>1
  | k+1=>tmf f x k*x*((f+2*k:Nat):Rat)⁻¹*((f+2*k+1:Nat):Rat)⁻¹
theorem dpw_even(t:Rat):∀ k,dpw t (2*k)=tmf 1 (t*t) k
  | 0=>rfl
  | k+1=>by
    rw [show 2*(k+1)=2*k+1+1 by omega,dpw,dpw,dpw_even t k,tmf,show 1+2*k=2*k+1 by omega];grind
theorem dpw_odd(t:Rat):∀ k,dpw t (2*k+1)=t*tmf 2 (t*t) k
  | 0=>by
    have h:=dpw_succ t 0
    have e:((0+1:Nat):Rat)=1:=rfl
    rw [e] at h
    show dpw t (0+1)=t*1
    have:dpw t 0=1:=rfl
    grind
  | k+1=>by
    rw [show 2*(k+1)+1=2*k+1+1+1 by omega,dpw,dpw,dpw_odd t k,tmf,show 2+2*k=2*k+1+1 by omega];grind
def altS(f:Nat)(x:Rat)(n:Nat):Rat:=Qg (fun k=>alt k*tmf f x k) n
theorem cosS_alt(t:Rat)(n:Nat):YO t n=altS 1 (t*t) n:=Q8 fun i _=>by rw [cosT,dpw_even]
theorem sinS_alt(t:Rat)(n:Nat):Yt t n=t*altS 2 (t*t) n:=by
  rw [altS,←YH];exact Q8 fun i _=>by rw [sinT,dpw_odd];grind
def parS(b:Nat)(f:Nat)(x:Rat)(n:Nat):Rat:=Qg (fun k=>if k % 2=b then tmf f x k else 0) n
theorem altS_par(f:Nat)(x:Rat)(n:Nat):altS f x n=parS 0 f x n-parS 1 f x n:=by
  induction n with
  | zero=>show (0:Rat)=0-0;grind
  | succ n ih =>
    have e1:altS f x (n+1)=altS f x n+alt n*tmf f x n:=rfl
    have e2:∀ b,parS b f x (n+1)=parS b f x n+(if n % 2=b then tmf f x n else 0):=fun b=>rfl
    rw [e1,e2,e2,ih]
    unfold alt
    rcases (show n % 2=0∨n % 2=1 by omega) with h | h
    · rw [if_pos h,if_pos h,if_neg (show ¬ n % 2=1 by omega)];grind
    · rw [if_neg (show ¬ n % 2=0 by omega),if_neg (show ¬ n % 2=0 by omega),if_pos h];grind
section
variable {f:Nat} {x:Rat} (hf1:1≤f) (x0:0≤x) (x1:x≤1)
include hf1 x0 x1
theorem tmf_step(k:Nat):0≤tmf f x k→0≤tmf f x (k+1)∧((f+2*k:Nat):Rat)*((f+2*k+1:Nat):Rat)*tmf f x (k+1)≤tmf f x k:=fun h=>by
  have p1:(0:Rat)<((f+2*k:Nat):Rat):=by rw [←Rat.intCast_natCast];exact (QA (a:=0)).2 (by omega)
  have p2:=nat_pos (f+2*k)
  have i1:=Rat.inv_mul_cancel ((f+2*k:Nat):Rat) (by grind)
  have i2:=Rat.inv_mul_cancel ((f+2*k+1:Nat):Rat) (by grind)
  have q1:0≤((f+2*k:Nat):Rat)⁻¹:=rlL (Rat.inv_pos.2 p1)
  have q2:0≤((f+2*k+1:Nat):Rat)⁻¹:=rlL (Rat.inv_pos.2 p2)
  rw [tmf]
  generalize ((f+2*k:Nat):Rat)=u at *
  generalize ((f+2*k+1:Nat):Rat)=v at *
  refine ⟨rmN (rmN (rmN h x0) q1) q2,?_⟩
  have e:u*v*(tmf f x k*x*u⁻¹*v⁻¹)=tmf f x k*x*(u⁻¹*u)*(v⁻¹*v):=by grind
  rw [e,i1,i2]
  have:=rmL x1 h
  grind
theorem tmf_nonneg:∀ k,0≤tmf f x k
  | 0=>by show (0:Rat)≤1;grind
  | k+1=>(tmf_step hf1 x0 x1 k (tmf_nonneg k)).1
theorem tmf_twelve{k:Nat}(hk:1≤k):12*tmf f x (k+1)≤tmf f x k:=by
  have h:=tmf_step hf1 x0 x1 k (tmf_nonneg hf1 x0 x1 k)
  have a1:(3:Rat)≤((f+2*k:Nat):Rat):=by rw [←Rat.intCast_natCast];exact (zG (a:=3)).2 (by omega)
  have a2:(4:Rat)≤((f+2*k+1:Nat):Rat):=by rw [←Rat.intCast_natCast];exact (zG (a:=4)).2 (by omega)
  generalize ((f+2*k:Nat):Rat)=u at *
  generalize ((f+2*k+1:Nat):Rat)=v at *
  have b1:=rmR a1 (show 0≤v by grind)
  have b2:=rmR (show 12≤u*v by grind) h.1
  grind
theorem tmf_half(k:Nat):2*tmf f x (k+1)≤tmf f x k:=by
  have h:=tmf_step hf1 x0 x1 k (tmf_nonneg hf1 x0 x1 k)
  have a1:(1:Rat)≤((f+2*k:Nat):Rat):=by rw [←Rat.intCast_natCast];exact (zG (a:=1)).2 (by omega)
  have a2:(2:Rat)≤((f+2*k+1:Nat):Rat):=by rw [←Rat.intCast_natCast];exact (zG (a:=2)).2 (by omega)
  generalize ((f+2*k:Nat):Rat)=u at *
  generalize ((f+2*k+1:Nat):Rat)=v at *
  have b1:=rmR a1 (show 0≤v by grind)
  have b2:=rmR (show 2≤u*v by grind) h.1
  grind
theorem tmf_le:∀ k,tmf f x k≤hf k
  | 0=>by rw [hf_zero];exact Rat.le_refl
  | k+1=>by
    have h:=tmf_half hf1 x0 x1 k
    have ih:=tmf_le k
    have e:=hf_succ k
    grind
theorem par_tail(b:Nat){K:Nat}(hK:1≤K):∀ d,parS b f x K≤parS b f x (K+d)∧11*(parS b f x (K+d)-parS b f x K)≤12*(tmf f x K-tmf f x (K+d))
  | 0=>by constructor<;>grind
  | d+1=>by
    have ih:=par_tail b hK d
    have t0:=tmf_nonneg hf1 x0 x1 (K+d)
    have t1:=tmf_twelve hf1 x0 x1 (show 1≤K+d by omega)
    have e:parS b f x (K+(d+1))=parS b f x (K+d)+(if (K+d) % 2=b then tmf f x (K+d) else 0):=rfl
    rw [e,←Nat.add_assoc]
    split<;>constructor<;>grind
theorem altS_enc{K:Nat}{a b c d r:Rat}(hK:1≤K)(h1:a≤parS 0 f x K)(h2:parS 0 f x K≤b)(h3:c≤parS 1 f x K)(h4:parS 1 f x K≤d)(h5:12*tmf f x K≤11*r):Enc (altS f x) (a-(d+r)) (b+r-c):=fun e he=>⟨K,fun n hn=>by
  obtain ⟨m,rfl⟩:∃ m,n=K+m:=⟨n-K,by omega⟩
  have p:=par_tail hf1 x0 x1 0 hK m
  have q:=par_tail hf1 x0 x1 1 hK m
  have t:=tmf_nonneg hf1 x0 x1 (K+m)
  rw [altS_par]
  constructor<;>grind⟩
end
structure Fx where
  a:Int
  e:Int
def InF(w:Int)(x:Fx)(r:Rat):Prop:=0≤x.a∧0≤x.e∧(x.a:Rat)≤r*p2 w∧r*p2 w≤((x.a+x.e:Int):Rat)
def qE(x:Fx)(d:Int):Fx:=⟨x.a/d,x.e/d+2⟩
def YY(x y:Fx):Fx:=⟨x.a+y.a,x.e+y.e⟩
def zN(x:Fx)(n:Int):Fx:=⟨x.a,x.e+n⟩
def subF(x y:Fx):Fx:=⟨x.a-(y.a+y.e),x.e+y.e⟩
def upI(n:Int)(k:Nat):Int:=n/2^k+if n % 2^k=0 then 0 else 1
def Xb(x y:Fx)(w:Int):Fx:=⟨x.a*y.a/2^w.toNat,upI ((x.a+x.e)*(y.a+y.e)) w.toNat-x.a*y.a/2^w.toNat⟩
theorem upI_le{n:Int}{k:Nat}:upI n k*2^k<n+2^k∧n≤upI n k*2^k:=by
  have p:=two_pow_pos k
  have h:=Int.mul_ediv_add_emod n (2^k)
  have h1:=Int.emod_nonneg n (show (2:Int)^k≠0 by omega)
  have h2:=Int.emod_lt_of_pos n p
  unfold upI
  rw [Int.add_mul,Int.mul_comm (n/2^k)]
  split
  · rw [Int.zero_mul];omega
  · rw [Int.one_mul];omega
theorem InF.add{w:Int}{x y:Fx}{r s:Rat}(h:InF w x r)(k:InF w y s):InF w (YY x y) (r+s):=by
  obtain ⟨h1,h2,h3,h4⟩:=h
  obtain ⟨k1,k2,k3,k4⟩:=k
  refine ⟨show 0≤x.a+y.a by omega,show 0≤x.e+y.e by omega,?_,?_⟩
  · show ((x.a+y.a:Int):Rat)≤_
    rw [rcA];grind
  · show _≤((x.a+y.a+(x.e+y.e):Int):Rat)
    rw [show x.a+y.a+(x.e+y.e)=(x.a+x.e)+(y.a+y.e) by omega,rcA];grind
theorem InF.short{w:Int}{x:Fx}{r:Rat}(h:InF w x r){d:Int}(hd:0<d):InF w (qE x d) (r*(d:Rat)⁻¹):=by
  obtain ⟨h1,h2,h3,h4⟩:=h
  have dp:=cast_ne hd
  have iv:=Rat.inv_mul_cancel (d:Rat) (by grind)
  have a1:=Int.mul_ediv_add_emod x.a d
  have a2:=Int.emod_nonneg x.a (show d≠0 by omega)
  have a3:=Int.emod_lt_of_pos x.a hd
  have b1:=Int.mul_ediv_add_emod x.e d
  have b2:=Int.emod_nonneg x.e (show d≠0 by omega)
  have b3:=Int.emod_lt_of_pos x.e hd
  have e1:r*(d:Rat)⁻¹*p2 w*(d:Rat)=r*p2 w:=by
    have:r*(d:Rat)⁻¹*p2 w*(d:Rat)=r*p2 w*((d:Rat)⁻¹*(d:Rat)):=by grind
    rw [this,iv,Rat.mul_one]
  refine ⟨show 0≤x.a/d from Int.ediv_nonneg h1 (by omega),show 0≤x.e/d+2 by have:=Int.ediv_nonneg h2 (show 0≤d by omega);omega,?_,?_⟩
  · show ((x.a/d:Int):Rat)≤_
    rw [←Rat.not_lt,←Rat.mul_lt_mul_right dp,e1,←rcM]
    have:((x.a/d*d:Int):Rat)≤(x.a:Rat):=zG.2 (by rw [Int.mul_comm];omega)
    grind
  · show _≤((x.a/d+(x.e/d+2):Int):Rat)
    rw [←Rat.not_lt,←Rat.mul_lt_mul_right dp,e1,←rcM]
    have:((x.a+x.e:Int):Rat)≤(((x.a/d+(x.e/d+2))*d:Int):Rat):=zG.2 (by
      have:(x.a/d+(x.e/d+2))*d=d*(x.a/d)+d*(x.e/d)+2*d:=by rw [Int.add_mul,Int.add_mul,Int.mul_comm (x.a/d),Int.mul_comm (x.e/d)];omega
      omega)
    grind
theorem InF.mul{w:Int}{x y:Fx}{r s:Rat}(hw:0≤w)(h:InF w x r)(k:InF w y s):InF w (Xb x y w) (r*s):=by
  obtain ⟨h1,h2,h3,h4⟩:=h
  obtain ⟨k1,k2,k3,k4⟩:=k
  have pp:=two_pow_pos w.toNat
  have pw:p2 w=((2^w.toNat:Int):Rat):=zU hw
  have pr:=qL w
  have u:=upI_le (n:=(x.a+x.e)*(y.a+y.e)) (k:=w.toNat)
  have d1:=Int.mul_ediv_add_emod (x.a*y.a) (2^w.toNat)
  have d2:=Int.emod_nonneg (x.a*y.a) (show (2:Int)^w.toNat≠0 by omega)
  have hle:x.a*y.a≤(x.a+x.e)*(y.a+y.e):=Int.mul_le_mul (by omega) (by omega) k1 (by omega)
  have q0:0≤x.a*y.a:=Int.mul_nonneg h1 k1
  have lo:x.a*y.a/2^w.toNat≤upI ((x.a+x.e)*(y.a+y.e)) w.toNat:=by
    have:x.a*y.a/2^w.toNat*2^w.toNat≤upI ((x.a+x.e)*(y.a+y.e)) w.toNat*2^w.toNat:=by rw [Int.mul_comm];omega
    exact Int.le_of_mul_le_mul_right this pp
  have a0:(0:Rat)≤(x.a:Rat):=zG.2 h1
  have b0:(0:Rat)≤(y.a:Rat):=zG.2 k1
  have m1:=rmL k3 a0
  have m2:=rmR h3 (show 0≤s*p2 w by grind)
  have m3:=rmL k4 (show 0≤r*p2 w by grind)
  have m4:=rmR h4 (show (0:Rat)≤((y.a+y.e:Int):Rat) by grind)
  refine ⟨Int.ediv_nonneg q0 (by omega),show 0≤upI ((x.a+x.e)*(y.a+y.e)) w.toNat-x.a*y.a/2^w.toNat by omega,?_,?_⟩
  · show ((x.a*y.a/2^w.toNat:Int):Rat)≤_
    rw [←Qo w]
    have e:((x.a*y.a/2^w.toNat:Int):Rat)*p2 w=((x.a*y.a/2^w.toNat*2^w.toNat:Int):Rat):=by rw [pw,rcM]
    have g:((x.a*y.a/2^w.toNat*2^w.toNat:Int):Rat)≤((x.a*y.a:Int):Rat):=zG.2 (by rw [Int.mul_comm];omega)
    rw [rcM x.a] at g
    rw [e];grind
  · show _≤((x.a*y.a/2^w.toNat+(upI ((x.a+x.e)*(y.a+y.e)) w.toNat-x.a*y.a/2^w.toNat):Int):Rat)
    rw [show x.a*y.a/2^w.toNat+(upI ((x.a+x.e)*(y.a+y.e)) w.toNat-x.a*y.a/2^w.toNat)=upI ((x.a+x.e)*(y.a+y.e)) w.toNat by omega,←Qo w]
    have e:((upI ((x.a+x.e)*(y.a+y.e)) w.toNat:Int):Rat)*p2 w=((upI ((x.a+x.e)*(y.a+y.e)) w.toNat*2^w.toNat:Int):Rat):=by rw [pw,rcM]
    have g:(((x.a+x.e)*(y.a+y.e):Int):Rat)≤((upI ((x.a+x.e)*(y.a+y.e)) w.toNat*2^w.toNat:Int):Rat):=zG.2 u.2
    rw [rcM (x.a+x.e)] at g
    rw [e];grind
theorem mulF_e{w:Int}{x y:Fx}(ex:0≤x.e)(ey:0≤y.e)(ax:x.a≤2^w.toNat)(ay:y.a≤2^w.toNat)(hs:x.e*y.e≤2^w.toNat):(Xb x y w).e≤x.e+y.e+3:=by
  have pp:=two_pow_pos w.toNat
  have u:=(upI_le (n:=(x.a+x.e)*(y.a+y.e)) (k:=w.toNat)).1
  have d1:=Int.mul_ediv_add_emod (x.a*y.a) (2^w.toNat)
  have d3:=Int.emod_lt_of_pos (x.a*y.a) pp
  have m1:=imR ax ey
  have m2:=imL ay ex
  have e1:(x.a+x.e)*(y.a+y.e)=x.a*y.a+x.a*y.e+x.e*y.a+x.e*y.e:=by rw [Int.add_mul,Int.mul_add,Int.mul_add];omega
  have key:(upI ((x.a+x.e)*(y.a+y.e)) w.toNat-x.a*y.a/2^w.toNat)*2^w.toNat<(x.e+y.e+3)*2^w.toNat:=by
    generalize upI ((x.a+x.e)*(y.a+y.e)) w.toNat=U at *
    generalize x.a*y.a/2^w.toNat=Z at *
    generalize (2:Int)^w.toNat=P at *
    have t1:(U-Z)*P=U*P-P*Z:=by rw [Int.sub_mul,Int.mul_comm Z]
    have t2:(x.e+y.e+3)*P=x.e*P+P*y.e+3*P:=by rw [Int.add_mul,Int.add_mul,Int.mul_comm y.e]
    omega
  have:=Int.lt_of_mul_lt_mul_right key (by omega)
  exact Int.le_of_lt this
def tyFx:TyRow:=⟨163,2,true,[.words true [],.int .u64 0],.struct [(0,1,false),(1,1,false)]⟩
def tyF9:TyRow:=⟨136,2,true,[.words true [],.int .u64 0],.struct [(0,1,false),(1,1,false)]⟩
def tys3:List TyRow:=[tyFx,tyF9] ++ tys
theorem QM:RowsOk Tryz.prog tys3:=⟨by kernel_rfl,by kernel_rfl,Qh⟩
def Fw.f(x:Fw):Fx:=⟨val x.xs,x.e⟩
def fw(z:Fx):Fw:=⟨ws z.a,z.e⟩
abbrev fxT(z:Fx):Tv:=.sv (.agg (fwL false (fw z)))
theorem XD{z:Fx}(h:0≤z.a):(fw z).f=z:=by
  show (⟨val (ws z.a),z.e⟩:Fx)=z
  rw [qN h]
def Fw.Ok(x:Fw):Prop:=x.xs.length≤1073741824∧0≤x.e∧x.e≤1099511627776
def Fx.Ok(z:Fx):Prop:=0≤z.a∧blen z.a≤68719476736∧0≤z.e∧z.e≤1099511627776
theorem Fx.Ok.w{z:Fx}(h:z.Ok):(fw z).Ok:=⟨QR h.1 (by have:=h.2.1;omega),h.2.2⟩
theorem ZY{n:Int}(h:zR n):IntKind.u64.wrap n=n:=by rw [Zv];exact Int.emod_eq_of_lt h.1 h.2
def seOne:qU:=qF [.i .i64] fun (q:Int)=>(some (0≤q∧q≤16777216),fxT ⟨2^q.toNat,0⟩)
theorem seOne_vc(q:Int)(Q:Tv→Prop):qH ⟨tys3,sLimbs⟩ (fun _=>none) 0 Tryz.f182 [.one (.int .i64 q)] Q=(zR 1∧((0:Int)≤q∧q≤1099511627776∧List.length (ws (val (ws 1)))≤8796093022208)∧Q (Tv.sv (Sv.agg [At.words true (ws (val (ws 1)*2^Int.toNat q)),At.int .u64 0]))):=by kernel_rfl
theorem seOne_ok:SpecOk Tryz.prog 182 seOne :=
  zA (qO QM Zq) mixed Tryz.func182 rfl (by decide) (by decide) fun (q:Int) _ hp=>⟨fun _=>none,0,by
    obtain ⟨h0,h1⟩:0≤q∧q≤16777216:=hp
    refine (seOne_vc q _).mpr ?_
    rw [Zi,Int.one_mul]
    exact ⟨Yn,⟨h0,by omega,by simp [ws_one]⟩,.inr rfl⟩⟩
def seAdd:qU:=qF [.fx,.fx] fun (x:Fw) (y:Fw)=>(some (x.Ok∧y.Ok),fxT (YY x.f y.f))
theorem seAdd_vc(x y:Fw)(Q:Tv→Prop):qH ⟨tys3,sLimbs⟩ (fun _=>none) 0 Tryz.f205 [.agg (fwL false x),.agg (fwL false y)] Q=((List.length x.xs≤17592186044414∧List.length y.xs≤17592186044414)∧true=true∧Q (Tv.sv (Sv.agg [At.words true (ws (val x.xs+val y.xs)),At.int .u64 (IntKind.wrap IntKind.u64 (x.e+y.e))]))):=by kernel_rfl
theorem seAdd_ok:SpecOk Tryz.prog 205 seAdd :=
  zA (qO QM Zq) mixed Tryz.func205 rfl (by decide) (by decide) fun (x:Fw) _ (y:Fw) _ hp=>⟨fun _=>none,0,by
    obtain ⟨⟨a1,a2,a3⟩,b1,b2,b3⟩:x.Ok∧y.Ok:=hp
    refine (seAdd_vc x y _).mpr ?_
    rw [ZY ⟨by omega,by omega⟩]
    exact ⟨⟨by omega,by omega⟩,rfl,.inr rfl⟩⟩
def seHigh:qU:=qF [.fx] fun (x:Fw)=>(some x.Ok,wT (ws (x.f.a+x.f.e)))
theorem seHigh_vc(x:Fw)(Q:Tv→Prop):qH ⟨tys3,sLimbs⟩ (fun _=>none) 0 Tryz.f199 [.agg (fwL false x)] Q=(zR x.e∧(List.length x.xs≤17592186044414∧List.length (ws x.e)≤17592186044414)∧true=true∧Q (Tv.sv (Sv.one (At.words true (ws (val x.xs+val (ws x.e))))))):=by kernel_rfl
theorem ws_small{n:Int}(h:n≤1099511627776):(ws n).length≤1:=by
  by_cases h0:0≤n
  · exact Qk (by have:Qd 1=18446744073709551616:=rfl;omega)
  · rw [Zp (by omega)];simp
theorem seHigh_ok:SpecOk Tryz.prog 199 seHigh :=
  qG (qO QM Zq) mixed Tryz.func199 rfl (by decide) (by decide) fun (x:Fw) _ hp=>⟨fun _=>none,0,by
    obtain ⟨a1,a2,a3⟩:x.Ok:=hp
    refine (seHigh_vc x _).mpr ?_
    have:=ws_small a3
    rw [qN a2]
    exact ⟨⟨a2,by omega⟩,⟨by omega,by omega⟩,rfl,rfl⟩⟩
def seWid:qU:=qF [.fx,.i .u64] fun (x:Fw) (n:Int)=>(some (x.Ok∧0≤n∧n≤1099511627776∧x.xs=ws (val x.xs)),fxT (zN x.f n))
theorem seWid_vc(x:Fw)(n:Int)(Q:Tv→Prop):qH ⟨tys3,sLimbs⟩ (fun _=>none) 0 Tryz.f186 [.agg (fwL false x),.one (.int .u64 n)] Q=(Q (Tv.sv (Sv.agg [At.words false x.xs,At.int .u64 (IntKind.wrap IntKind.u64 (x.e+n))]))):=by kernel_rfl
theorem seWid_ok:SpecOk Tryz.prog 186 seWid :=
  zA (qO QM Zq) mixed Tryz.func186 rfl (by decide) (by decide) fun (x:Fw) _ (n:Int) _ hp=>⟨fun _=>none,0,by
    obtain ⟨⟨a1,a2,a3⟩,b1,b2,b3⟩:x.Ok∧0≤n∧n≤1099511627776∧x.xs=ws (val x.xs):=hp
    refine (seWid_vc x n _).mpr ?_
    rw [ZY ⟨by omega,by omega⟩,b3]
    exact .inl rfl⟩
def btwF(a b:Int):Fx:=⟨a,b-a⟩
theorem nth_ws0{n:Int}(h0:0<n)(h:n<18446744073709551616):nth (ws n) 0=n:=by
  rw [Xp h0,Zp (by omega)];show n % 18446744073709551616=n;omega
def seBtw:qU:=qF [.w,.w] fun (xs:List Int) (ys:List Int)=>(some (val xs≤val ys∧val ys-val xs≤1099511627776∧xs=ws (val xs)),fxT (btwF (val xs) (val ys)))
theorem seBtw_vc(xs ys:List Int)(Q:Tv→Prop):qH ⟨tys3,sLimbs⟩ (fun _=>none) 0 Tryz.f203 [.one (.words false xs),.one (.words false ys)] Q=(val xs≤val ys∧br (ltI 0 (↑(List.length (ws (val ys-val xs))):Int)) (((0:Int)≤0∧(0:Int)<(↑(List.length (ws (val ys-val xs))):Int))∧Q (Tv.sv (Sv.agg [At.words false xs,At.int .u64 (nth (ws (val ys-val xs)) 0)]))) (Q (Tv.sv (Sv.agg [At.words false xs,At.int .u64 0])))):=by kernel_rfl
theorem seBtw_ok:SpecOk Tryz.prog 203 seBtw :=
  zA (qO QM Zq) mixed Tryz.func203 rfl (by decide) (by decide) fun (xs:List Int) _ (ys:List Int) _ hp=>⟨fun _=>none,0,by
    obtain ⟨h1,h2,h3⟩:val xs≤val ys∧val ys-val xs≤1099511627776∧xs=ws (val xs):=hp
    show qH _ _ _ _ _ (fun t=>t=fxT (btwF (val xs) (val ys))∨fgT t=fxT (btwF (val xs) (val ys)))
    refine (seBtw_vc xs ys _).mpr ⟨h1,?_⟩
    rw [YV (by omega)]
    refine qB (fun h=>⟨⟨by omega,?_⟩,.inl ?_⟩) fun h=>.inl ?_
    · have:=(YV (n:=val ys-val xs) (by omega)).trans h;exact qW.1 this
    · rw [nth_ws0 (by simp at h;omega) (by omega)]
      show _=Tv.sv (.agg [.words false (ws (val xs)),.int .u64 (val ys-val xs)])
      rw [←h3]
    · have h:val ys-val xs=0:=by simpa using h
      show _=Tv.sv (.agg [.words false (ws (val xs)),.int .u64 (val ys-val xs)])
      rw [←h3,h]⟩
def seWhole:qU:=qF [.d] fun (d:Dx)=>(some (0≤d.e∧d.Sm 68719476736),wT (ws (d.m*2^d.e.toNat)))
theorem seWhole_vc(d:Dx)(Q:Tv→Prop):qH ⟨tys3,sLimbs⟩ (fun _=>none) 0 Tryz.f204 [.agg (dyL false d)] Q=(((0:Int)≤d.e∧d.e≤1099511627776∧List.length (ws (val d.xs))≤8796093022208)∧Q (Tv.sv (Sv.one (At.words true (ws (val d.xs*2^Int.toNat d.e)))))):=by kernel_rfl
theorem seWhole_ok:SpecOk Tryz.prog 204 seWhole :=
  qG (qO QM Zq) mixed Tryz.func204 rfl (by decide) (by decide) fun (d:Dx) hd hp=>⟨fun _=>none,0,by
    obtain ⟨h0,h1,h2,h3⟩:0≤d.e∧d.Sm 68719476736:=hp
    unfold Dx.m at h1
    exact (seWhole_vc d _).mpr ⟨⟨h0,by omega,QR (WfW.val0 hd) (by omega)⟩,rfl⟩⟩
def seShort:qU:=qF [.fx,.i .u64] fun (x:Fw) (d:Int)=>(some (0≤x.e∧x.e≤1099511627776∧0<d∧d<18446744073709551616),fxT (qE x.f d))
theorem seShort_vc(x:Fw)(d:Int)(Q:Tv→Prop):qH ⟨tys3,sLimbs⟩ (fun _=>none) 0 Tryz.f185 [.agg (fwL false x),.one (.int .u64 d)] Q=((zR d∧(0:Int)<d)∧d≠0∧Q (Tv.sv (Sv.agg [At.words true (ws (val x.xs/d)),At.int .u64 (IntKind.wrap IntKind.u64 (IntKind.wrap IntKind.u64 (Int.tdiv x.e d)+2))]))):=by kernel_rfl
theorem seShort_ok:SpecOk Tryz.prog 185 seShort :=
  zA (qO QM Zq) mixed Tryz.func185 rfl (by decide) (by decide) fun (x:Fw) _ (d:Int) _ hp=>⟨fun _=>none,0,by
    obtain ⟨h0,h1,h2,h3⟩:0≤x.e∧x.e≤1099511627776∧0<d∧d<18446744073709551616:=hp
    have q0:=Int.ediv_nonneg h0 (show 0≤d by omega)
    have q1:=Int.ediv_le_self d h0
    refine (seShort_vc x d _).mpr ?_
    rw [Int.tdiv_eq_ediv_of_nonneg h0,ZY (n:=x.e/d) ⟨q0,by omega⟩,ZY ⟨by omega,by omega⟩]
    exact ⟨⟨⟨by omega,h3⟩,h2⟩,by omega,.inr rfl⟩⟩
def sSer1:List (FuncId×qU):=[(182,seOne),(205,seAdd),(199,seHigh),(186,seWid),(203,seBtw),(204,seWhole),(185,seShort)] ++ sLimbs
theorem sSer1_ok:SpecsOk Tryz.prog sSer1:=⟨seOne_ok,seAdd_ok,seHigh_ok,seWid_ok,seBtw_ok,seWhole_ok,seShort_ok,Zq⟩
def qX(d:Dx):Dx:=if 0≤(qC d).e then qC d else mkD (qC d).neg ((qC d).m/2^(-(qC d).e).toNat+if (Z6 (qC d).m (-(qC d).e).toNat && (qC d).neg)=true then 1 else 0) 0
def rFloor:qU:=qF [.d] fun (d:Dx)=>(some (d.Sm 68719476736),dT (qX d))
theorem rFloor_vc(d:Dx)(Q:Tv→Prop):qH ⟨tys,sRaw2⟩ (fun _=>none) 0 Tryz.f174 [.agg (dyL false d)] Q=(((-4611686018427387904:Int)≤d.e∧d.e≤4611686018427387904)∧br (leI 0 (qC d).e) (Q (Tv.sv (Sv.agg (dyL true (qC d))))) (inR ((0:Int)-(qC d).e)∧((0:Int)≤0-(qC d).e∧(0:Int)-(qC d).e≤9007199254740992)∧br (Z6 (val (qC d).xs) (Int.toNat ((0:Int)-(qC d).e))) (br (qC d).neg (zR 1∧(List.length (ws (val (qC d).xs/2^Int.toNat ((0:Int)-(qC d).e)))≤17592186044414∧List.length (ws 1)≤17592186044414)∧((-4611686018427387904:Int)≤0∧(0:Int)≤4611686018427387904)∧Q (Tv.sv (Sv.agg (dyL true (mkD (qC d).neg (val (ws (val (ws (val (qC d).xs/2^Int.toNat ((0:Int)-(qC d).e)))+val (ws 1)))) 0))))) (((-4611686018427387904:Int)≤0∧(0:Int)≤4611686018427387904)∧Q (Tv.sv (Sv.agg (dyL true (mkD (qC d).neg (val (ws (val (qC d).xs/2^Int.toNat ((0:Int)-(qC d).e)))) 0)))))) (((-4611686018427387904:Int)≤0∧(0:Int)≤4611686018427387904)∧Q (Tv.sv (Sv.agg (dyL true (mkD (qC d).neg (val (ws (val (qC d).xs/2^Int.toNat ((0:Int)-(qC d).e)))) 0))))))):=by kernel_rfl
theorem rFloor_ok:SpecOk Tryz.prog 174 rFloor :=
  qG (qO Qh sRaw2_ok) mixed Tryz.func174 rfl (by decide) (by decide) fun (d:Dx) hd hp=>⟨fun _=>none,0,by
    obtain ⟨s1,s2,s3⟩:d.Sm 68719476736:=hp
    have m1:=one_m0 (Dx.Wf.m0 hd)
    obtain ⟨z1,z2,z3⟩:=ZM (Dx.Wf.m0 hd) ⟨s1,s2,s3⟩
    have p0:=two_pow_pos (-(qC d).e).toNat
    have hq:0≤(qC d).m/2^(-(qC d).e).toNat:=Int.ediv_nonneg m1 (by omega)
    have hql:(ws ((qC d).m/2^(-(qC d).e).toNat)).length≤17592186044414:=QR hq (by
      have:=ZK (m:=(qC d).m/2^(-(qC d).e).toNat) (n:=(qC d).m) (Int.ediv_le_self _ m1);omega)
    show qH _ _ _ _ _ (fun t=>t=dT (qX d))
    refine (rFloor_vc d _).mpr ⟨⟨by omega,by omega⟩,qB (fun h=>?_) fun h=>?_⟩
    · rw [qX,if_pos (zS.1 h)]
    · have h:=Qn.1 h
      rw [qX,if_neg h,Int.zero_sub,Zi]
      unfold Dx.m at hq hql ⊢
      rw [qN hq]
      refine ⟨⟨by omega,by omega⟩,⟨by omega,by omega⟩,qB (fun h1=>qB (fun h2=>?_) fun h2=>?_) fun h1=>?_⟩
      · rw [h1,h2,qN (by omega)]
        exact ⟨Yn,⟨by omega,by simp [ws_one]⟩,⟨by omega,by omega⟩,rfl⟩
      · rw [h1,h2]
        exact ⟨⟨by omega,by omega⟩,by rw [if_neg (by simp),Int.add_zero]⟩
      · rw [h1]
        exact ⟨⟨by omega,by omega⟩,by rw [if_neg (by simp),Int.add_zero]⟩⟩
def rInt:qU:=qF [.i .i64] fun (n:Int)=>(some (inR n),dT (mkS n 0))
theorem rInt_vc(n:Int)(Q:Tv→Prop):qH ⟨tys,sRaw2⟩ (fun _=>none) 0 Tryz.f147 [.one (.int .i64 n)] Q=(br (ltI n 0) (zR (IntKind.wrap IntKind.u64 ((0:Int)-IntKind.wrap IntKind.u64 n))∧((-4611686018427387904:Int)≤0∧(0:Int)≤4611686018427387904)∧Q (Tv.sv (Sv.agg (dyL true (mkD (ltI n 0) (val (ws (IntKind.wrap IntKind.u64 ((0:Int)-IntKind.wrap IntKind.u64 n)))) 0))))) (zR (IntKind.wrap IntKind.u64 n)∧((-4611686018427387904:Int)≤0∧(0:Int)≤4611686018427387904)∧Q (Tv.sv (Sv.agg (dyL true (mkD (ltI n 0) (val (ws (IntKind.wrap IntKind.u64 n))) 0)))))):=by kernel_rfl
theorem rInt_ok:SpecOk Tryz.prog 147 rInt :=
  qG (qO Qh sRaw2_ok) mixed Tryz.func147 rfl (by decide) (by decide) fun (n:Int) _ hp=>⟨fun _=>none,0,by
    obtain ⟨h0,h1⟩:inR n:=hp
    have w1:IntKind.u64.wrap n=n % 18446744073709551616:=Zv n
    have w2:IntKind.u64.wrap (0-IntKind.u64.wrap n)=(0-n % 18446744073709551616) % 18446744073709551616:=by rw [w1];exact Zv _
    show qH _ _ _ _ _ (fun t=>t=dT (mkS n 0))
    refine (rInt_vc n _).mpr (qB (fun h=>?_) fun h=>?_)
    · have h':=qW.1 h
      rw [w2,mkS,show (0-n % 18446744073709551616) % 18446744073709551616=(n.natAbs:Int) by omega,qN (by omega)]
      exact ⟨⟨by omega,by omega⟩,⟨by omega,by omega⟩,by rw [h,decide_eq_true h']⟩
    · have h':=qJ.1 h
      rw [w1,mkS,show n % 18446744073709551616=(n.natAbs:Int) by omega,qN (by omega)]
      exact ⟨⟨by omega,by omega⟩,⟨by omega,by omega⟩,by rw [h,decide_eq_false h']⟩⟩
theorem Fw.f_a(x:Fw):x.f.a=val x.xs:=rfl
theorem Fw.f_e(x:Fw):x.f.e=x.e:=rfl
def seSub:qU:=qF [.fx,.fx] fun (x:Fw) (y:Fw)=>(some (x.Ok∧y.Ok∧y.f.a+y.f.e≤x.f.a),fxT (subF x.f y.f))
theorem seSub_vc(x y:Fw)(Q:Tv→Prop):qH ⟨tys3,sSer1⟩ (fun _=>none) 0 Tryz.f187 [.agg (fwL false x),.agg (fwL false y)] Q=(Fw.Ok y∧val (ws ((Fw.f y).a+(Fw.f y).e))≤val x.xs∧true=true∧Q (Tv.sv (Sv.agg [At.words true (ws (val x.xs-val (ws ((Fw.f y).a+(Fw.f y).e)))),At.int .u64 (IntKind.wrap IntKind.u64 (x.e+y.e))]))):=by kernel_rfl
theorem seSub_ok:SpecOk Tryz.prog 187 seSub :=
  zA (qO QM sSer1_ok) mixed Tryz.func187 rfl (by decide) (by decide) fun (x:Fw) _ (y:Fw) hy hp=>⟨fun _=>none,0,by
    obtain ⟨⟨a1,a2,a3⟩,yo,h⟩:x.Ok∧y.Ok∧y.f.a+y.f.e≤x.f.a:=hp
    have y0:=WfW.val0 (xs:=y.xs) hy
    have yo2:=yo.2
    refine (seSub_vc x y _).mpr ?_
    rw [qN (by rw [y.f_a,y.f_e];omega),ZY ⟨by omega,by omega⟩]
    exact ⟨yo,h,rfl,.inr rfl⟩⟩
def seMul:qU:=qF [.fx,.fx,.i .i64] fun (x:Fw) (y:Fw) (q:Int)=>(some (x.Ok∧y.Ok∧0≤q∧q≤16777216∧(Xb x.f y.f q).e≤1099511627776),fxT (Xb x.f y.f q))
theorem upI_lost(n:Int)(k:Nat):upI n k=n/2^k+if Z6 n k=true then 1 else 0:=by
  unfold upI Z6
  by_cases h:n % 2^k=0
  · rw [if_pos h,if_neg (by simpa using h)]
  · rw [if_neg h,if_pos (by simpa using h)]
theorem mulF_lo{a b c d:Int}{k:Nat}(ha:0≤a)(hc:0≤c)(hb:0≤b)(hd:0≤d):a*c/2^k≤upI ((a+b)*(c+d)) k:=by
  have p:=two_pow_pos k
  have h1:a*c≤(a+b)*(c+d):=Int.mul_le_mul (by omega) (by omega) hc (by omega)
  have h2:=Int.ediv_le_ediv p h1
  unfold upI;split<;>omega
theorem seMul_vc(x y:Fw)(q:Int)(Q:Tv→Prop):qH ⟨tys3,sSer1⟩ (fun _=>none) 0 Tryz.f184 [.agg (fwL false x),.agg (fwL false y),.one (.int .i64 q)] Q=(List.length (ws (val x.xs))+List.length (ws (val y.xs))≤17592186044415∧((0:Int)≤q∧q≤9007199254740992)∧Fw.Ok x∧Fw.Ok y∧List.length (ws (val (ws ((Fw.f x).a+(Fw.f x).e))))+List.length (ws (val (ws ((Fw.f y).a+(Fw.f y).e))))≤17592186044415∧((0:Int)≤q∧q≤9007199254740992)∧true=true∧br (Z6 (val (ws (val (ws ((Fw.f x).a+(Fw.f x).e))*val (ws ((Fw.f y).a+(Fw.f y).e))))) (Int.toNat q)) (zR 1∧(List.length (ws (val (ws (val (ws ((Fw.f x).a+(Fw.f x).e))*val (ws ((Fw.f y).a+(Fw.f y).e))))/2^Int.toNat q))≤17592186044414∧List.length (ws 1)≤17592186044414)∧(val (ws (val (ws (val x.xs*val y.xs))/2^Int.toNat q))≤val (ws (val (ws (val (ws (val (ws ((Fw.f x).a+(Fw.f x).e))*val (ws ((Fw.f y).a+(Fw.f y).e))))/2^Int.toNat q))+val (ws 1)))∧val (ws (val (ws (val (ws (val (ws ((Fw.f x).a+(Fw.f x).e))*val (ws ((Fw.f y).a+(Fw.f y).e))))/2^Int.toNat q))+val (ws 1)))-val (ws (val (ws (val x.xs*val y.xs))/2^Int.toNat q))≤1099511627776∧ws (val (ws (val x.xs*val y.xs))/2^Int.toNat q)=ws (val (ws (val (ws (val x.xs*val y.xs))/2^Int.toNat q))))∧Q (Tv.sv (Sv.agg (fwL false (fw (btwF (val (ws (val (ws (val x.xs*val y.xs))/2^Int.toNat q))) (val (ws (val (ws (val (ws (val (ws ((Fw.f x).a+(Fw.f x).e))*val (ws ((Fw.f y).a+(Fw.f y).e))))/2^Int.toNat q))+val (ws 1)))))))))) ((val (ws (val (ws (val x.xs*val y.xs))/2^Int.toNat q))≤val (ws (val (ws (val (ws ((Fw.f x).a+(Fw.f x).e))*val (ws ((Fw.f y).a+(Fw.f y).e))))/2^Int.toNat q))∧val (ws (val (ws (val (ws ((Fw.f x).a+(Fw.f x).e))*val (ws ((Fw.f y).a+(Fw.f y).e))))/2^Int.toNat q))-val (ws (val (ws (val x.xs*val y.xs))/2^Int.toNat q))≤1099511627776∧ws (val (ws (val x.xs*val y.xs))/2^Int.toNat q)=ws (val (ws (val (ws (val x.xs*val y.xs))/2^Int.toNat q))))∧Q (Tv.sv (Sv.agg (fwL false (fw (btwF (val (ws (val (ws (val x.xs*val y.xs))/2^Int.toNat q))) (val (ws (val (ws (val (ws ((Fw.f x).a+(Fw.f x).e))*val (ws ((Fw.f y).a+(Fw.f y).e))))/2^Int.toNat q)))))))))):=by kernel_rfl
theorem Fw.Ok.len{x:Fw}(h:x.Ok)(hw:WfW x.xs):0≤x.f.a∧0≤x.f.a+x.f.e∧(ws x.f.a).length≤1073741824∧(ws (x.f.a+x.f.e)).length≤1073741825:=by
  have h0:=WfW.val0 hw
  obtain ⟨h1,h2,h3⟩:=h
  have h4:=small_len hw
  refine ⟨h0,by rw [x.f_a,x.f_e];omega,by rw [x.f_a];omega,?_⟩
  refine Qk ?_
  have a1:=Zh h0
  have a2:=wpow_le (show (ws (val x.xs)).length≤1073741824 by omega)
  rw [Qe,x.f_a,x.f_e]
  have:=Zc 1073741824
  generalize Qd 1073741824=W at *
  omega
theorem ws_len_mul{m n:Int}(hm:0≤m)(hn:0≤n):(ws (m*n)).length≤(ws m).length+(ws n).length:=by
  refine Qk ?_
  have a:=Zh hm
  rw [Yy]
  by_cases h:0<n
  · have b:=Zh (n:=n) (by omega)
    exact Int.lt_of_lt_of_le (Int.mul_lt_mul_of_pos_right a h) (imL (by omega) (by have:=Zc (ws m).length;omega))
  · rw [show n=0 by omega,Int.mul_zero];exact Int.mul_pos (Zc _) (Zc _)
theorem seMul_ok:SpecOk Tryz.prog 184 seMul :=
  zA (qO QM sSer1_ok) mixed Tryz.func184 rfl (by decide) (by decide) fun (x:Fw) hx (y:Fw) hy (q:Int) _ hp=>⟨fun _=>none,0,by
    obtain ⟨xo,yo,q0,q1,he⟩:x.Ok∧y.Ok∧0≤q∧q≤16777216∧(Xb x.f y.f q).e≤1099511627776:=hp
    obtain ⟨x1,x2,x3,x4⟩:=xo.len hx
    obtain ⟨y1,y2,y3,y4⟩:=yo.len hy
    have m1:=Int.mul_nonneg x1 y1
    have m2:=Int.mul_nonneg x2 y2
    have p0:=two_pow_pos q.toNat
    have d1:=Int.ediv_nonneg m1 (show (0:Int)≤2^q.toNat by omega)
    have d2:=Int.ediv_nonneg m2 (show (0:Int)≤2^q.toNat by omega)
    have hlo:=mulF_lo (k:=q.toNat) x1 y1 (b:=x.f.e) (d:=y.f.e) xo.2.1 yo.2.1
    have hlen:(ws ((x.f.a+x.f.e)*(y.f.a+y.f.e)/2^q.toNat)).length≤17592186044414:=by
      have h2:=ws_len_mul x2 y2
      have h1:(ws ((x.f.a+x.f.e)*(y.f.a+y.f.e)/2^q.toNat)).length≤(ws ((x.f.a+x.f.e)*(y.f.a+y.f.e))).length :=
        Qk (Int.lt_of_le_of_lt (Int.ediv_le_self _ m2) (Zh m2))
      omega
    have he':upI ((x.f.a+x.f.e)*(y.f.a+y.f.e)) q.toNat-x.f.a*y.f.a/2^q.toNat≤1099511627776:=he
    show qH _ _ _ _ _ (fun t=>t=fxT (Xb x.f y.f q)∨fgT t=fxT (Xb x.f y.f q))
    refine (seMul_vc x y q _).mpr ?_
    rw [←x.f_a,←y.f_a,qN x2,qN y2,qN m2,qN m1,qN d1,qN d2,Zi]
    have key:=upI_lost ((x.f.a+x.f.e)*(y.f.a+y.f.e)) q.toNat
    have goal:fxT (Xb x.f y.f q)=fxT (btwF (x.f.a*y.f.a/2^q.toNat) (upI ((x.f.a+x.f.e)*(y.f.a+y.f.e)) q.toNat)):=rfl
    rw [goal,key]
    rw [key] at hlo he'
    refine ⟨by omega,⟨by omega,by omega⟩,xo,yo,by omega,⟨by omega,by omega⟩,rfl,qB (fun h=>?_) fun h=>?_⟩
    · rw [h,if_pos rfl] at hlo he' ⊢
      rw [qN (by omega)]
      exact ⟨Yn,⟨hlen,by simp [ws_one]⟩,⟨hlo,he',rfl⟩,.inl rfl⟩
    · rw [h,if_neg (by simp),Int.add_zero] at hlo he' ⊢
      exact ⟨⟨hlo,he',rfl⟩,.inl rfl⟩⟩
def sSer2:List (FuncId×qU):=[(74,rForm)] ++ sSer1
theorem sSer2_ok:SpecsOk Tryz.prog sSer2:=⟨rForm_ok,sSer1_ok⟩
def ivF(x:Fx)(q:Int):Vx:=⟨mkD false x.a (-q),mkD false (x.a+x.e) (-q)⟩
def seIval:qU:=qF [.fx,.i .i64] fun (x:Fw) (q:Int)=>(some (x.Ok∧0≤q∧q≤16777216),vT (ivF x.f q))
theorem seIval_vc(x:Fw)(q:Int)(Q:Tv→Prop):qH ⟨tys3,sSer2⟩ (fun _=>none) 0 Tryz.f170 [.agg (fwL false x),.one (.int .i64 q)] Q=(inR ((0:Int)-q)∧((-4611686018427387904:Int)≤0-q∧(0:Int)-q≤4611686018427387904)∧Fw.Ok x∧inR ((0:Int)-q)∧((-4611686018427387904:Int)≤0-q∧(0:Int)-q≤4611686018427387904)∧true=true∧Q (Tv.sv (Sv.agg (ivL true (Vx.mk (mkD false (val x.xs) ((0:Int)-q)) (mkD false (val (ws ((Fw.f x).a+(Fw.f x).e))) ((0:Int)-q))))))):=by kernel_rfl
theorem seIval_ok:SpecOk Tryz.prog 170 seIval :=
  qG (qO QM sSer2_ok) mixed Tryz.func170 rfl (by decide) (by decide) fun (x:Fw) hx (q:Int) _ hp=>⟨fun _=>none,0,by
    obtain ⟨xo,q0,q1⟩:x.Ok∧0≤q∧q≤16777216:=hp
    refine (seIval_vc x q _).mpr ?_
    rw [qN (xo.len hx).2.1,Int.zero_sub]
    exact ⟨⟨by omega,by omega⟩,⟨by omega,by omega⟩,xo,⟨by omega,by omega⟩,⟨by omega,by omega⟩,rfl,rfl⟩⟩
def sSer3:List (FuncId×qU):=[(174,rFloor),(173,rShift),(151,rNeg)] ++ sSer1
theorem sSer3_ok:SpecsOk Tryz.prog sSer3:=⟨rFloor_ok,rShift_ok,rNeg_ok,sSer1_ok⟩
def wholeI(d:Dx):Int:=d.m*2^d.e.toNat
def Zj(v:Vx)(q:Int):Fx:=btwF (wholeI (qX (zC v.lo q))) (wholeI (ZO (qX (ZO (zC v.hi q)))))
def seFrom:qU:=qF [.v,.i .i64] fun (v:Vx) (q:Int)=>(some (v.Sm 268435456∧0≤q∧q≤16777216∧0≤(Zj v q).e∧(Zj v q).e≤1099511627776),fxT (Zj v q))
theorem seFrom_vc(v:Vx)(q:Int)(Q:Tv→Prop):qH ⟨tys3,sSer3⟩ (fun _=>none) 0 Tryz.f180 [.agg (ivL false v),.one (.int .i64 q)] Q=(((-2305843009213693952:Int)≤v.lo.e∧v.lo.e≤2305843009213693952∧(-2305843009213693952:Int)≤q∧q≤2305843009213693952)∧Dx.Sm 68719476736 (zC v.lo q)∧((-2305843009213693952:Int)≤v.hi.e∧v.hi.e≤2305843009213693952∧(-2305843009213693952:Int)≤q∧q≤2305843009213693952)∧((-4611686018427387904:Int)≤(zC v.hi q).e∧(zC v.hi q).e≤4611686018427387904)∧Dx.Sm 68719476736 (ZO (zC v.hi q))∧((-4611686018427387904:Int)≤(qX (ZO (zC v.hi q))).e∧(qX (ZO (zC v.hi q))).e≤4611686018427387904)∧((0:Int)≤(qX (zC v.lo q)).e∧Dx.Sm 68719476736 (qX (zC v.lo q)))∧((0:Int)≤(ZO (qX (ZO (zC v.hi q)))).e∧Dx.Sm 68719476736 (ZO (qX (ZO (zC v.hi q)))))∧(val (ws (Dx.m (qX (zC v.lo q))*2^Int.toNat (qX (zC v.lo q)).e))≤val (ws (Dx.m (ZO (qX (ZO (zC v.hi q))))*2^Int.toNat (ZO (qX (ZO (zC v.hi q)))).e))∧val (ws (Dx.m (ZO (qX (ZO (zC v.hi q))))*2^Int.toNat (ZO (qX (ZO (zC v.hi q)))).e))-val (ws (Dx.m (qX (zC v.lo q))*2^Int.toNat (qX (zC v.lo q)).e))≤1099511627776∧ws (Dx.m (qX (zC v.lo q))*2^Int.toNat (qX (zC v.lo q)).e)=ws (val (ws (Dx.m (qX (zC v.lo q))*2^Int.toNat (qX (zC v.lo q)).e))))∧true=true∧Q (Tv.sv (Sv.agg (fwL false (fw (btwF (val (ws (Dx.m (qX (zC v.lo q))*2^Int.toNat (qX (zC v.lo q)).e))) (val (ws (Dx.m (ZO (qX (ZO (zC v.hi q))))*2^Int.toNat (ZO (qX (ZO (zC v.hi q)))).e))))))))):=by kernel_rfl
theorem mkD_e0{neg:Bool}{m e:Int}(h:0≤e):0≤(mkD neg m e).e:=by
  unfold mkD;split
  · exact Int.le_refl _
  · show 0≤e+(tz m:Int);omega
theorem Y2{d:Dx}:0≤(qX d).m:=by unfold qX;split;exact zZ;exact mkD_p
theorem floorD_e{d:Dx}:0≤(qX d).e:=by
  unfold qX;split
  · assumption
  · exact mkD_e0 (Int.le_refl _)
theorem floorD_sm{d:Dx}{N:Nat}(hd:0≤d.m)(h:d.Sm N):(qX d).Sm (N+N+2):=by
  have z:=ZM hd h
  unfold qX;split
  · exact z.mono (by omega)
  · have p0:=two_pow_pos (-(qC d).e).toNat
    have m0:0≤(qC d).m:=zZ
    have hq:0≤(qC d).m/2^(-(qC d).e).toNat:=Int.ediv_nonneg m0 (by omega)
    have hl:(qC d).m/2^(-(qC d).e).toNat≤(qC d).m:=Int.ediv_le_self _ m0
    have hb:blen ((qC d).m/2^(-(qC d).e).toNat+if (Z6 (qC d).m (-(qC d).e).toNat && (qC d).neg)=true then 1 else 0)≤N+N+1:=by
      refine QW ?_
      have h1:=Q5 (qC d).m
      have h2:=Qf (j:=blen (qC d).m) (k:=N+N) z.1
      have h3:=two_pow_pos (N+N)
      rw [Int.pow_succ]
      split<;>omega
    exact (mkD_sm (N:=N+N+1) (M:=0) (by split<;>omega) hb (by omega) (by omega)).mono (by omega)
theorem negD_e0{d:Dx}(h:0≤d.e):0≤(ZO d).e:=mkD_e0 h
theorem wholeI_p{d:Dx}(h:0≤d.m):0≤wholeI d:=Int.mul_nonneg h (by have:=two_pow_pos d.e.toNat;omega)
theorem seFrom_ok:SpecOk Tryz.prog 180 seFrom :=
  zA (qO QM sSer3_ok) mixed Tryz.func180 rfl (by decide) (by decide) fun (v:Vx) hv (q:Int) _ hp=>⟨fun _=>none,0,by
    obtain ⟨⟨s1,s2⟩,q0,q1,he0,he1⟩:v.Sm 268435456∧0≤q∧q≤16777216∧0≤(Zj v q).e∧(Zj v q).e≤1099511627776:=hp
    have hv:=Vx.Wf.p hv
    have z1:=shiftD_sm (n:=q) (M:=16777216) hv.1 s1 (by omega) (by omega)
    have z2:=shiftD_sm (n:=q) (M:=16777216) hv.2 s2 (by omega) (by omega)
    have z3:=Yd z2 shiftD_p
    have z4:=floorD_sm shiftD_p z1
    have z5:=floorD_sm YQ z3
    have z6:=Yd z5 Y2
    have w1:=wholeI_p (d:=qX (zC v.lo q)) Y2
    have w2:=wholeI_p (d:=ZO (qX (ZO (zC v.hi q)))) YQ
    show qH _ _ _ _ _ (fun t=>t=fxT (Zj v q)∨fgT t=fxT (Zj v q))
    refine (seFrom_vc v q _).mpr ?_
    unfold wholeI at w1 w2
    rw [qN w1,qN w2]
    have he0':0≤Dx.m (ZO (qX (ZO (zC v.hi q))))*(2:Int)^Int.toNat (ZO (qX (ZO (zC v.hi q)))).e-Dx.m (qX (zC v.lo q))*(2:Int)^Int.toNat (qX (zC v.lo q)).e:=he0
    have he1':Dx.m (ZO (qX (ZO (zC v.hi q))))*(2:Int)^Int.toNat (ZO (qX (ZO (zC v.hi q)))).e-Dx.m (qX (zC v.lo q))*(2:Int)^Int.toNat (qX (zC v.lo q)).e≤1099511627776:=he1
    have e1:=s1.2;have e2:=s2.2
    exact ⟨⟨by omega,by omega,by omega,by omega⟩,z1.mono (by omega),⟨by omega,by omega,by omega,by omega⟩,z2.eB (by omega),z3.mono (by omega),z5.eB (by omega),⟨floorD_e,z4.mono (by omega)⟩,⟨negD_e0 floorD_e,z6.mono (by omega)⟩,⟨by omega,he1',rfl⟩,rfl,.inl rfl⟩⟩
def sSer:List (FuncId×qU):=[(180,seFrom),(187,seSub),(184,seMul),(170,seIval)] ++ sSer1
theorem sSer_ok:SpecsOk Tryz.prog sSer:=⟨seFrom_ok,seSub_ok,seMul_ok,seIval_ok,sSer1_ok⟩
end Go.Proofs.YtenkjloaghmjfaaGreatDoor
