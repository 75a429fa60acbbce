/-
Package raw: intervals.
Dyadic numbers: sizes of what is reckoned. Plain.
Package raw: intervals, reckoned with.
Symbolic execution, seventeenth part: words told by patterns; words that forget which memory is new; what can be known of arguments.
Package ival: the words of its functions that reckon with nothing but their arguments.
Package ival: the words of all its functions.
Dyadic numbers as rational numbers: what is reckoned, and order. Plain.
Package ulpref04.
Dyadic numbers as rational numbers: tops, narrowness, one form. Plain.
Package ulpref06.
ulpref04.Copy, by hand: a copy of a number's words.
Memory that is spoiled: words of a call's own later memory are written; everything else stays.
The references' naturals (ulpref03): short.
The next numbers of so many bits, down and up. Plain.
Quotients and roots: the next numbers of so many bits. Plain.
Roots; products and quotients of what lies between ends. Plain.
Numbers told as limits of sums of rational numbers: finite sums, limits, products of sums. Plain.
Products of sums that fall off by halves. Plain.
Sine and cosine as limits: the sums of divided powers, sums of angles. Plain.
Sine and cosine as limits, second part: sums of angles, the circle, the mirror; enclosures of products. Plain.
Sine and cosine as alternating sums of the powers of the square. Plain.
Numbers in so many bits with a bound of their error. Plain.
Numbers in so many bits with their error: packages series and ulpref09.
Package series: Sum, of the terms of a sine.
The sums of a sine's terms in so many bits: how great they are, what they enclose. Plain.
How far a rounding lies from what is rounded; narrow intervals. Plain.
Numbers in so many bits with their error: package ulpref09.
Intervals as rational numbers: what is reckoned of what lies in them lies in the answer; of parts, within; with more bits, within. Plain.
Intervals as rational numbers, second part: quotients, roots; what the statements of ulplaw06 ask. Plain.
-/
import Derived.Test.YtbmolijeikedcaaGreatDoorMg1
import Derived.Deep.QuietTactic
import Derived.BigQuiet
import Derived.StillTailTactics
namespace Go.Proofs.YtbmolijeikedcaaGreatDoor
open Go.RowKit
theorem specOk_at {P : Program} {E : Env} (hE : EnvOk P E) (hm : P.follows .mixedOrders = true) {f : FuncId} {fn : Func} {c : Code} (hf : P.funcs[f]? = some fn) (hb : fn.body = some c) (hname : (fn.name == "runtime.NumGoroutine") = false) {sp : Spec} (k : Nat) (hk : k ≤ fn.ntmps)
    (h:∀ l p t,sp l=(p,t)→(match p with | none=>True | some p=>p)→l.length≤k∧∃ inv fuel,execF E inv fuel fn l (fun x=>x=t)):SpecOk P f sp :=
  specOk_of hE hm hf hb hname k hk fun l hp=>h l (sp l).1 (sp l).2 rfl hp
def vF(v:Vx):Tv:=.sv (.agg (ivL false v))
def spanS(v:Vx)(d:Dx):Vx:=⟨if cmpD d v.lo<0 then d else v.lo,if 0<cmpD d v.hi then d else v.hi⟩
def Vx.Sm(N:Nat)(v:Vx):Prop:=v.lo.Sm N∧v.hi.Sm N
theorem spanS_sm{N:Nat}{v:Vx}{d:Dx}(h:v.Sm N)(k:d.Sm N):(spanS v d).Sm N:=by
  unfold spanS
  constructor
  · show Dx.Sm N (if _ then _ else _);split<;>first | exact k | exact h.1
  · show Dx.Sm N (if _ then _ else _);split<;>first | exact k | exact h.2
def spanL(a:Dx)(l:List Dx):Vx:=l.foldl spanS ⟨a,a⟩
def spK:LKeep:=⟨[14,15,16,3,2],[(0,6),(8,6)],14⟩
def spSt(n:Nat)(cs:List At)(j:Int)(v:Vx):List (Nat×Tv)×List (Nat×Nat×At) :=
  ([(14,.sv (.one (.rows false 3 n cs))),(15,iT n),(16,iT j),(3,.sv (.one (.ptr 8 0))),(2,.sv (.one (.ptr 0 0)))],
   [(0,0,.bool false),(0,1,.words true []),(0,2,.int .i64 0),(0,3,.bool false),(0,4,.words true []),(0,5,.int .i64 0),(8,0,.bool v.lo.neg),(8,1,.words false v.lo.xs),(8,2,.int .i64 v.lo.e),(8,3,.bool v.hi.neg),(8,4,.words false v.hi.xs),(8,5,.int .i64 v.hi.e)])
theorem rSpan2_vc(a b:Dx)(Q:Tv→Prop):execF ⟨tys,sRaw4⟩ (invAt 3 (.cuts spK [spSt 1 (dyL false b) 0 ⟨a,a⟩,spSt 1 (dyL false b) 1 (spanS ⟨a,a⟩ b)])) 0 Tryz.f57 [.one (.rows false 3 2 (dyL false a ++ dyL false b))] Q=(((0:Int)≤0∧(0:Int)<(↑(2:Nat):Int))∧  ((0:Int)≤0∧(0:Int)<(↑(2:Nat):Int))∧    true=true∧      ((0:Int)≤1∧(1:Int)<(↑(2:Nat):Int))∧        true=true∧          Sg.mk [((14:Nat),Tv.sv (Sv.one (At.rows false 3 1 (dyL false b)))),((15:Nat),Tv.sv (Sv.one (At.int IntKind.i64 (↑(1:Nat):Int)))),((16:Nat),Tv.sv (Sv.one (At.int IntKind.i64 0))),((3:Nat),Tv.sv (Sv.one (At.ptr ((1:Nat)+7) 0))),((2:Nat),Tv.sv (Sv.one (At.ptr 0 0)))] [((0:Nat),(0:Nat),At.bool false),((0:Nat),(1:Nat),At.words true []),((0:Nat),(2:Nat),At.int IntKind.i64 0),((0:Nat),(3:Nat),At.bool false),((0:Nat),(4:Nat),At.words true []),((0:Nat),(5:Nat),At.int IntKind.i64 0),((8:Nat),(0:Nat),At.bool a.neg),((8:Nat),(1:Nat),At.words false a.xs),((8:Nat),(2:Nat),At.int IntKind.i64 a.e),((8:Nat),(3:Nat),At.bool a.neg),((8:Nat),(4:Nat),At.words false a.xs),((8:Nat),(5:Nat),At.int IntKind.i64 a.e)] 14=Sg.mk [((14:Nat),Tv.sv (Sv.one (At.rows false 3 1 (dyL false b)))),((15:Nat),Tv.sv (Sv.one (At.int IntKind.i64 (↑(1:Nat):Int)))),((16:Nat),Tv.sv (Sv.one (At.int IntKind.i64 0))),((3:Nat),Tv.sv (Sv.one (At.ptr 8 0))),((2:Nat),Tv.sv (Sv.one (At.ptr 0 0)))] [((0:Nat),(0:Nat),At.bool false),((0:Nat),(1:Nat),At.words true []),((0:Nat),(2:Nat),At.int IntKind.i64 0),((0:Nat),(3:Nat),At.bool false),((0:Nat),(4:Nat),At.words true []),((0:Nat),(5:Nat),At.int IntKind.i64 0),((8:Nat),(0:Nat),At.bool a.neg),((8:Nat),(1:Nat),At.words false a.xs),((8:Nat),(2:Nat),At.int IntKind.i64 a.e),((8:Nat),(3:Nat),At.bool a.neg),((8:Nat),(4:Nat),At.words false a.xs),((8:Nat),(5:Nat),At.int IntKind.i64 a.e)] 14∧            (((0:Int)≤0∧(0:Int)<(↑(1:Nat):Int))∧                (Dx.Sm 68719476736 b∧Dx.Sm 68719476736 a)∧                  br (ltI (cmpD b a) 0)                     ((Dx.Sm 68719476736 b∧Dx.Sm 68719476736 a)∧                      br (ltI 0 (cmpD b a)) (inR ((0:Int)+1)∧true=true∧Sg.mk [((14:Nat),Tv.sv (Sv.one (At.rows false 3 1 (dyL false b)))),((15:Nat),Tv.sv (Sv.one (At.int IntKind.i64 (↑(1:Nat):Int)))),((16:Nat),Tv.sv (Sv.one (At.int IntKind.i64 ((0:Int)+1)))),((3:Nat),Tv.sv (Sv.one (At.ptr 8 0))),((2:Nat),Tv.sv (Sv.one (At.ptr 0 0)))] [((0:Nat),(0:Nat),At.bool false),((0:Nat),(1:Nat),At.words true []),((0:Nat),(2:Nat),At.int IntKind.i64 0),((0:Nat),(3:Nat),At.bool false),((0:Nat),(4:Nat),At.words true []),((0:Nat),(5:Nat),At.int IntKind.i64 0),((8:Nat),(0:Nat),At.bool b.neg),((8:Nat),(1:Nat),At.words false b.xs),((8:Nat),(2:Nat),At.int IntKind.i64 b.e),((8:Nat),(3:Nat),At.bool b.neg),((8:Nat),(4:Nat),At.words false b.xs),((8:Nat),(5:Nat),At.int IntKind.i64 b.e)] 14=Sg.mk [((14:Nat),Tv.sv (Sv.one (At.rows false 3 1 (dyL false b)))),((15:Nat),Tv.sv (Sv.one (At.int IntKind.i64 (↑(1:Nat):Int)))),((16:Nat),Tv.sv (Sv.one (At.int IntKind.i64 1))),((3:Nat),Tv.sv (Sv.one (At.ptr 8 0))),((2:Nat),Tv.sv (Sv.one (At.ptr 0 0)))] [((0:Nat),(0:Nat),At.bool false),((0:Nat),(1:Nat),At.words true []),((0:Nat),(2:Nat),At.int IntKind.i64 0),((0:Nat),(3:Nat),At.bool false),((0:Nat),(4:Nat),At.words true []),((0:Nat),(5:Nat),At.int IntKind.i64 0),((8:Nat),(0:Nat),At.bool (spanS (Vx.mk a a) b).lo.neg),((8:Nat),(1:Nat),At.words false (spanS (Vx.mk a a) b).lo.xs),((8:Nat),(2:Nat),At.int IntKind.i64 (spanS (Vx.mk a a) b).lo.e),((8:Nat),(3:Nat),At.bool (spanS (Vx.mk a a) b).hi.neg),((8:Nat),(4:Nat),At.words false (spanS (Vx.mk a a) b).hi.xs),((8:Nat),(5:Nat),At.int IntKind.i64 (spanS (Vx.mk a a) b).hi.e)] 14) (inR ((0:Int)+1)∧true=true∧Sg.mk [((14:Nat),Tv.sv (Sv.one (At.rows false 3 1 (dyL false b)))),((15:Nat),Tv.sv (Sv.one (At.int IntKind.i64 (↑(1:Nat):Int)))),((16:Nat),Tv.sv (Sv.one (At.int IntKind.i64 ((0:Int)+1)))),((3:Nat),Tv.sv (Sv.one (At.ptr 8 0))),((2:Nat),Tv.sv (Sv.one (At.ptr 0 0)))] [((0:Nat),(0:Nat),At.bool false),((0:Nat),(1:Nat),At.words true []),((0:Nat),(2:Nat),At.int IntKind.i64 0),((0:Nat),(3:Nat),At.bool false),((0:Nat),(4:Nat),At.words true []),((0:Nat),(5:Nat),At.int IntKind.i64 0),((8:Nat),(0:Nat),At.bool b.neg),((8:Nat),(1:Nat),At.words false b.xs),((8:Nat),(2:Nat),At.int IntKind.i64 b.e),((8:Nat),(3:Nat),At.bool a.neg),((8:Nat),(4:Nat),At.words false a.xs),((8:Nat),(5:Nat),At.int IntKind.i64 a.e)] 14=Sg.mk [((14:Nat),Tv.sv (Sv.one (At.rows false 3 1 (dyL false b)))),((15:Nat),Tv.sv (Sv.one (At.int IntKind.i64 (↑(1:Nat):Int)))),((16:Nat),Tv.sv (Sv.one (At.int IntKind.i64 1))),((3:Nat),Tv.sv (Sv.one (At.ptr 8 0))),((2:Nat),Tv.sv (Sv.one (At.ptr 0 0)))] [((0:Nat),(0:Nat),At.bool false),((0:Nat),(1:Nat),At.words true []),((0:Nat),(2:Nat),At.int IntKind.i64 0),((0:Nat),(3:Nat),At.bool false),((0:Nat),(4:Nat),At.words true []),((0:Nat),(5:Nat),At.int IntKind.i64 0),((8:Nat),(0:Nat),At.bool (spanS (Vx.mk a a) b).lo.neg),((8:Nat),(1:Nat),At.words false (spanS (Vx.mk a a) b).lo.xs),((8:Nat),(2:Nat),At.int IntKind.i64 (spanS (Vx.mk a a) b).lo.e),((8:Nat),(3:Nat),At.bool (spanS (Vx.mk a a) b).hi.neg),((8:Nat),(4:Nat),At.words false (spanS (Vx.mk a a) b).hi.xs),((8:Nat),(5:Nat),At.int IntKind.i64 (spanS (Vx.mk a a) b).hi.e)] 14))                     ((Dx.Sm 68719476736 b∧Dx.Sm 68719476736 a)∧                      br (ltI 0 (cmpD b a)) (inR ((0:Int)+1)∧true=true∧Sg.mk [((14:Nat),Tv.sv (Sv.one (At.rows false 3 1 (dyL false b)))),((15:Nat),Tv.sv (Sv.one (At.int IntKind.i64 (↑(1:Nat):Int)))),((16:Nat),Tv.sv (Sv.one (At.int IntKind.i64 ((0:Int)+1)))),((3:Nat),Tv.sv (Sv.one (At.ptr 8 0))),((2:Nat),Tv.sv (Sv.one (At.ptr 0 0)))] [((0:Nat),(0:Nat),At.bool false),((0:Nat),(1:Nat),At.words true []),((0:Nat),(2:Nat),At.int IntKind.i64 0),((0:Nat),(3:Nat),At.bool false),((0:Nat),(4:Nat),At.words true []),((0:Nat),(5:Nat),At.int IntKind.i64 0),((8:Nat),(0:Nat),At.bool a.neg),((8:Nat),(1:Nat),At.words false a.xs),((8:Nat),(2:Nat),At.int IntKind.i64 a.e),((8:Nat),(3:Nat),At.bool b.neg),((8:Nat),(4:Nat),At.words false b.xs),((8:Nat),(5:Nat),At.int IntKind.i64 b.e)] 14=Sg.mk [((14:Nat),Tv.sv (Sv.one (At.rows false 3 1 (dyL false b)))),((15:Nat),Tv.sv (Sv.one (At.int IntKind.i64 (↑(1:Nat):Int)))),((16:Nat),Tv.sv (Sv.one (At.int IntKind.i64 1))),((3:Nat),Tv.sv (Sv.one (At.ptr 8 0))),((2:Nat),Tv.sv (Sv.one (At.ptr 0 0)))] [((0:Nat),(0:Nat),At.bool false),((0:Nat),(1:Nat),At.words true []),((0:Nat),(2:Nat),At.int IntKind.i64 0),((0:Nat),(3:Nat),At.bool false),((0:Nat),(4:Nat),At.words true []),((0:Nat),(5:Nat),At.int IntKind.i64 0),((8:Nat),(0:Nat),At.bool (spanS (Vx.mk a a) b).lo.neg),((8:Nat),(1:Nat),At.words false (spanS (Vx.mk a a) b).lo.xs),((8:Nat),(2:Nat),At.int IntKind.i64 (spanS (Vx.mk a a) b).lo.e),((8:Nat),(3:Nat),At.bool (spanS (Vx.mk a a) b).hi.neg),((8:Nat),(4:Nat),At.words false (spanS (Vx.mk a a) b).hi.xs),((8:Nat),(5:Nat),At.int IntKind.i64 (spanS (Vx.mk a a) b).hi.e)] 14) (inR ((0:Int)+1)∧true=true∧Sg.mk [((14:Nat),Tv.sv (Sv.one (At.rows false 3 1 (dyL false b)))),((15:Nat),Tv.sv (Sv.one (At.int IntKind.i64 (↑(1:Nat):Int)))),((16:Nat),Tv.sv (Sv.one (At.int IntKind.i64 ((0:Int)+1)))),((3:Nat),Tv.sv (Sv.one (At.ptr 8 0))),((2:Nat),Tv.sv (Sv.one (At.ptr 0 0)))] [((0:Nat),(0:Nat),At.bool false),((0:Nat),(1:Nat),At.words true []),((0:Nat),(2:Nat),At.int IntKind.i64 0),((0:Nat),(3:Nat),At.bool false),((0:Nat),(4:Nat),At.words true []),((0:Nat),(5:Nat),At.int IntKind.i64 0),((8:Nat),(0:Nat),At.bool a.neg),((8:Nat),(1:Nat),At.words false a.xs),((8:Nat),(2:Nat),At.int IntKind.i64 a.e),((8:Nat),(3:Nat),At.bool a.neg),((8:Nat),(4:Nat),At.words false a.xs),((8:Nat),(5:Nat),At.int IntKind.i64 a.e)] 14=Sg.mk [((14:Nat),Tv.sv (Sv.one (At.rows false 3 1 (dyL false b)))),((15:Nat),Tv.sv (Sv.one (At.int IntKind.i64 (↑(1:Nat):Int)))),((16:Nat),Tv.sv (Sv.one (At.int IntKind.i64 1))),((3:Nat),Tv.sv (Sv.one (At.ptr 8 0))),((2:Nat),Tv.sv (Sv.one (At.ptr 0 0)))] [((0:Nat),(0:Nat),At.bool false),((0:Nat),(1:Nat),At.words true []),((0:Nat),(2:Nat),At.int IntKind.i64 0),((0:Nat),(3:Nat),At.bool false),((0:Nat),(4:Nat),At.words true []),((0:Nat),(5:Nat),At.int IntKind.i64 0),((8:Nat),(0:Nat),At.bool (spanS (Vx.mk a a) b).lo.neg),((8:Nat),(1:Nat),At.words false (spanS (Vx.mk a a) b).lo.xs),((8:Nat),(2:Nat),At.int IntKind.i64 (spanS (Vx.mk a a) b).lo.e),((8:Nat),(3:Nat),At.bool (spanS (Vx.mk a a) b).hi.neg),((8:Nat),(4:Nat),At.words false (spanS (Vx.mk a a) b).hi.xs),((8:Nat),(5:Nat),At.int IntKind.i64 (spanS (Vx.mk a a) b).hi.e)] 14)))∧              Q (Tv.sv (Sv.agg (ivL false (spanS (Vx.mk a a) b))))∧True):=by kernel_rfl
theorem rSpan4_vc(a b c d:Dx)(v1 v2 v3:Vx)(Q:Tv→Prop):execF ⟨tys,sRaw4⟩ (invAt 3 (.cuts spK [spSt 3 (dyL false b ++ (dyL false c ++ dyL false d)) 0 ⟨a,a⟩,spSt 3 (dyL false b ++ (dyL false c ++ dyL false d)) 1 v1,spSt 3 (dyL false b ++ (dyL false c ++ dyL false d)) 2 v2,spSt 3 (dyL false b ++ (dyL false c ++ dyL false d)) 3 v3])) 0 Tryz.f57 [.one (.rows false 3 4 (dyL false a ++ (dyL false b ++ (dyL false c ++ dyL false d))))] Q=(((0:Int)≤0∧(0:Int)<(↑(4:Nat):Int))∧  ((0:Int)≤0∧(0:Int)<(↑(4:Nat):Int))∧    true=true∧      ((0:Int)≤1∧(1:Int)<(↑(4:Nat):Int))∧        true=true∧          Sg.mk [((14:Nat),Tv.sv (Sv.one (At.rows false 3 3 (At.bool b.neg :: At.words false b.xs :: At.int IntKind.i64 b.e :: ivL false (Vx.mk c d))))),((15:Nat),Tv.sv (Sv.one (At.int IntKind.i64 (↑(3:Nat):Int)))),((16:Nat),Tv.sv (Sv.one (At.int IntKind.i64 0))),((3:Nat),Tv.sv (Sv.one (At.ptr ((1:Nat)+7) 0))),((2:Nat),Tv.sv (Sv.one (At.ptr 0 0)))] [((0:Nat),(0:Nat),At.bool false),((0:Nat),(1:Nat),At.words true []),((0:Nat),(2:Nat),At.int IntKind.i64 0),((0:Nat),(3:Nat),At.bool false),((0:Nat),(4:Nat),At.words true []),((0:Nat),(5:Nat),At.int IntKind.i64 0),((8:Nat),(0:Nat),At.bool a.neg),((8:Nat),(1:Nat),At.words false a.xs),((8:Nat),(2:Nat),At.int IntKind.i64 a.e),((8:Nat),(3:Nat),At.bool a.neg),((8:Nat),(4:Nat),At.words false a.xs),((8:Nat),(5:Nat),At.int IntKind.i64 a.e)] 14=Sg.mk [((14:Nat),Tv.sv (Sv.one (At.rows false 3 3 (At.bool b.neg :: At.words false b.xs :: At.int IntKind.i64 b.e :: ivL false (Vx.mk c d))))),((15:Nat),Tv.sv (Sv.one (At.int IntKind.i64 (↑(3:Nat):Int)))),((16:Nat),Tv.sv (Sv.one (At.int IntKind.i64 0))),((3:Nat),Tv.sv (Sv.one (At.ptr 8 0))),((2:Nat),Tv.sv (Sv.one (At.ptr 0 0)))] [((0:Nat),(0:Nat),At.bool false),((0:Nat),(1:Nat),At.words true []),((0:Nat),(2:Nat),At.int IntKind.i64 0),((0:Nat),(3:Nat),At.bool false),((0:Nat),(4:Nat),At.words true []),((0:Nat),(5:Nat),At.int IntKind.i64 0),((8:Nat),(0:Nat),At.bool a.neg),((8:Nat),(1:Nat),At.words false a.xs),((8:Nat),(2:Nat),At.int IntKind.i64 a.e),((8:Nat),(3:Nat),At.bool a.neg),((8:Nat),(4:Nat),At.words false a.xs),((8:Nat),(5:Nat),At.int IntKind.i64 a.e)] 14∧            (((0:Int)≤0∧(0:Int)<(↑(3:Nat):Int))∧                (Dx.Sm 68719476736 b∧Dx.Sm 68719476736 a)∧                  br (ltI (cmpD b a) 0)                     ((Dx.Sm 68719476736 b∧Dx.Sm 68719476736 a)∧                      br (ltI 0 (cmpD b a)) (inR ((0:Int)+1)∧true=true∧Sg.mk [((14:Nat),Tv.sv (Sv.one (At.rows false 3 3 (At.bool b.neg :: At.words false b.xs :: At.int IntKind.i64 b.e :: ivL false (Vx.mk c d))))),((15:Nat),Tv.sv (Sv.one (At.int IntKind.i64 (↑(3:Nat):Int)))),((16:Nat),Tv.sv (Sv.one (At.int IntKind.i64 ((0:Int)+1)))),((3:Nat),Tv.sv (Sv.one (At.ptr 8 0))),((2:Nat),Tv.sv (Sv.one (At.ptr 0 0)))] [((0:Nat),(0:Nat),At.bool false),((0:Nat),(1:Nat),At.words true []),((0:Nat),(2:Nat),At.int IntKind.i64 0),((0:Nat),(3:Nat),At.bool false),((0:Nat),(4:Nat),At.words true []),((0:Nat),(5:Nat),At.int IntKind.i64 0),((8:Nat),(0:Nat),At.bool b.neg),((8:Nat),(1:Nat),At.words false b.xs),((8:Nat),(2:Nat),At.int IntKind.i64 b.e),((8:Nat),(3:Nat),At.bool b.neg),((8:Nat),(4:Nat),At.words false b.xs),((8:Nat),(5:Nat),At.int IntKind.i64 b.e)] 14=Sg.mk [((14:Nat),Tv.sv (Sv.one (At.rows false 3 3 (At.bool b.neg :: At.words false b.xs :: At.int IntKind.i64 b.e :: ivL false (Vx.mk c d))))),((15:Nat),Tv.sv (Sv.one (At.int IntKind.i64 (↑(3:Nat):Int)))),((16:Nat),Tv.sv (Sv.one (At.int IntKind.i64 1))),((3:Nat),Tv.sv (Sv.one (At.ptr 8 0))),((2:Nat),Tv.sv (Sv.one (At.ptr 0 0)))] [((0:Nat),(0:Nat),At.bool false),((0:Nat),(1:Nat),At.words true []),((0:Nat),(2:Nat),At.int IntKind.i64 0),((0:Nat),(3:Nat),At.bool false),((0:Nat),(4:Nat),At.words true []),((0:Nat),(5:Nat),At.int IntKind.i64 0),((8:Nat),(0:Nat),At.bool v1.lo.neg),((8:Nat),(1:Nat),At.words false v1.lo.xs),((8:Nat),(2:Nat),At.int IntKind.i64 v1.lo.e),((8:Nat),(3:Nat),At.bool v1.hi.neg),((8:Nat),(4:Nat),At.words false v1.hi.xs),((8:Nat),(5:Nat),At.int IntKind.i64 v1.hi.e)] 14)                         (inR ((0:Int)+1)∧true=true∧Sg.mk [((14:Nat),Tv.sv (Sv.one (At.rows false 3 3 (At.bool b.neg :: At.words false b.xs :: At.int IntKind.i64 b.e :: ivL false (Vx.mk c d))))),((15:Nat),Tv.sv (Sv.one (At.int IntKind.i64 (↑(3:Nat):Int)))),((16:Nat),Tv.sv (Sv.one (At.int IntKind.i64 ((0:Int)+1)))),((3:Nat),Tv.sv (Sv.one (At.ptr 8 0))),((2:Nat),Tv.sv (Sv.one (At.ptr 0 0)))] [((0:Nat),(0:Nat),At.bool false),((0:Nat),(1:Nat),At.words true []),((0:Nat),(2:Nat),At.int IntKind.i64 0),((0:Nat),(3:Nat),At.bool false),((0:Nat),(4:Nat),At.words true []),((0:Nat),(5:Nat),At.int IntKind.i64 0),((8:Nat),(0:Nat),At.bool b.neg),((8:Nat),(1:Nat),At.words false b.xs),((8:Nat),(2:Nat),At.int IntKind.i64 b.e),((8:Nat),(3:Nat),At.bool a.neg),((8:Nat),(4:Nat),At.words false a.xs),((8:Nat),(5:Nat),At.int IntKind.i64 a.e)] 14=Sg.mk [((14:Nat),Tv.sv (Sv.one (At.rows false 3 3 (At.bool b.neg :: At.words false b.xs :: At.int IntKind.i64 b.e :: ivL false (Vx.mk c d))))),((15:Nat),Tv.sv (Sv.one (At.int IntKind.i64 (↑(3:Nat):Int)))),((16:Nat),Tv.sv (Sv.one (At.int IntKind.i64 1))),((3:Nat),Tv.sv (Sv.one (At.ptr 8 0))),((2:Nat),Tv.sv (Sv.one (At.ptr 0 0)))] [((0:Nat),(0:Nat),At.bool false),((0:Nat),(1:Nat),At.words true []),((0:Nat),(2:Nat),At.int IntKind.i64 0),((0:Nat),(3:Nat),At.bool false),((0:Nat),(4:Nat),At.words true []),((0:Nat),(5:Nat),At.int IntKind.i64 0),((8:Nat),(0:Nat),At.bool v1.lo.neg),((8:Nat),(1:Nat),At.words false v1.lo.xs),((8:Nat),(2:Nat),At.int IntKind.i64 v1.lo.e),((8:Nat),(3:Nat),At.bool v1.hi.neg),((8:Nat),(4:Nat),At.words false v1.hi.xs),((8:Nat),(5:Nat),At.int IntKind.i64 v1.hi.e)] 14))                     ((Dx.Sm 68719476736 b∧Dx.Sm 68719476736 a)∧                      br (ltI 0 (cmpD b a)) (inR ((0:Int)+1)∧true=true∧Sg.mk [((14:Nat),Tv.sv (Sv.one (At.rows false 3 3 (At.bool b.neg :: At.words false b.xs :: At.int IntKind.i64 b.e :: ivL false (Vx.mk c d))))),((15:Nat),Tv.sv (Sv.one (At.int IntKind.i64 (↑(3:Nat):Int)))),((16:Nat),Tv.sv (Sv.one (At.int IntKind.i64 ((0:Int)+1)))),((3:Nat),Tv.sv (Sv.one (At.ptr 8 0))),((2:Nat),Tv.sv (Sv.one (At.ptr 0 0)))] [((0:Nat),(0:Nat),At.bool false),((0:Nat),(1:Nat),At.words true []),((0:Nat),(2:Nat),At.int IntKind.i64 0),((0:Nat),(3:Nat),At.bool false),((0:Nat),(4:Nat),At.words true []),((0:Nat),(5:Nat),At.int IntKind.i64 0),((8:Nat),(0:Nat),At.bool a.neg),((8:Nat),(1:Nat),At.words false a.xs),((8:Nat),(2:Nat),At.int IntKind.i64 a.e),((8:Nat),(3:Nat),At.bool b.neg),((8:Nat),(4:Nat),At.words false b.xs),((8:Nat),(5:Nat),At.int IntKind.i64 b.e)] 14=Sg.mk [((14:Nat),Tv.sv (Sv.one (At.rows false 3 3 (At.bool b.neg :: At.words false b.xs :: At.int IntKind.i64 b.e :: ivL false (Vx.mk c d))))),((15:Nat),Tv.sv (Sv.one (At.int IntKind.i64 (↑(3:Nat):Int)))),((16:Nat),Tv.sv (Sv.one (At.int IntKind.i64 1))),((3:Nat),Tv.sv (Sv.one (At.ptr 8 0))),((2:Nat),Tv.sv (Sv.one (At.ptr 0 0)))] [((0:Nat),(0:Nat),At.bool false),((0:Nat),(1:Nat),At.words true []),((0:Nat),(2:Nat),At.int IntKind.i64 0),((0:Nat),(3:Nat),At.bool false),((0:Nat),(4:Nat),At.words true []),((0:Nat),(5:Nat),At.int IntKind.i64 0),((8:Nat),(0:Nat),At.bool v1.lo.neg),((8:Nat),(1:Nat),At.words false v1.lo.xs),((8:Nat),(2:Nat),At.int IntKind.i64 v1.lo.e),((8:Nat),(3:Nat),At.bool v1.hi.neg),((8:Nat),(4:Nat),At.words false v1.hi.xs),((8:Nat),(5:Nat),At.int IntKind.i64 v1.hi.e)] 14)                         (inR ((0:Int)+1)∧true=true∧Sg.mk [((14:Nat),Tv.sv (Sv.one (At.rows false 3 3 (At.bool b.neg :: At.words false b.xs :: At.int IntKind.i64 b.e :: ivL false (Vx.mk c d))))),((15:Nat),Tv.sv (Sv.one (At.int IntKind.i64 (↑(3:Nat):Int)))),((16:Nat),Tv.sv (Sv.one (At.int IntKind.i64 ((0:Int)+1)))),((3:Nat),Tv.sv (Sv.one (At.ptr 8 0))),((2:Nat),Tv.sv (Sv.one (At.ptr 0 0)))] [((0:Nat),(0:Nat),At.bool false),((0:Nat),(1:Nat),At.words true []),((0:Nat),(2:Nat),At.int IntKind.i64 0),((0:Nat),(3:Nat),At.bool false),((0:Nat),(4:Nat),At.words true []),((0:Nat),(5:Nat),At.int IntKind.i64 0),((8:Nat),(0:Nat),At.bool a.neg),((8:Nat),(1:Nat),At.words false a.xs),((8:Nat),(2:Nat),At.int IntKind.i64 a.e),((8:Nat),(3:Nat),At.bool a.neg),((8:Nat),(4:Nat),At.words false a.xs),((8:Nat),(5:Nat),At.int IntKind.i64 a.e)] 14=Sg.mk [((14:Nat),Tv.sv (Sv.one (At.rows false 3 3 (At.bool b.neg :: At.words false b.xs :: At.int IntKind.i64 b.e :: ivL false (Vx.mk c d))))),((15:Nat),Tv.sv (Sv.one (At.int IntKind.i64 (↑(3:Nat):Int)))),((16:Nat),Tv.sv (Sv.one (At.int IntKind.i64 1))),((3:Nat),Tv.sv (Sv.one (At.ptr 8 0))),((2:Nat),Tv.sv (Sv.one (At.ptr 0 0)))] [((0:Nat),(0:Nat),At.bool false),((0:Nat),(1:Nat),At.words true []),((0:Nat),(2:Nat),At.int IntKind.i64 0),((0:Nat),(3:Nat),At.bool false),((0:Nat),(4:Nat),At.words true []),((0:Nat),(5:Nat),At.int IntKind.i64 0),((8:Nat),(0:Nat),At.bool v1.lo.neg),((8:Nat),(1:Nat),At.words false v1.lo.xs),((8:Nat),(2:Nat),At.int IntKind.i64 v1.lo.e),((8:Nat),(3:Nat),At.bool v1.hi.neg),((8:Nat),(4:Nat),At.words false v1.hi.xs),((8:Nat),(5:Nat),At.int IntKind.i64 v1.hi.e)] 14)))∧              (((0:Int)≤1∧(1:Int)<(↑(3:Nat):Int))∧                  (Dx.Sm 68719476736 c∧Dx.Sm 68719476736 v1.lo)∧                    br (ltI (cmpD c v1.lo) 0)                       ((Dx.Sm 68719476736 c∧Dx.Sm 68719476736 v1.hi)∧                        br (ltI 0 (cmpD c v1.hi)) (inR ((1:Int)+1)∧true=true∧Sg.mk [((14:Nat),Tv.sv (Sv.one (At.rows false 3 3 (At.bool b.neg :: At.words false b.xs :: At.int IntKind.i64 b.e :: ivL false (Vx.mk c d))))),((15:Nat),Tv.sv (Sv.one (At.int IntKind.i64 (↑(3:Nat):Int)))),((16:Nat),Tv.sv (Sv.one (At.int IntKind.i64 ((1:Int)+1)))),((3:Nat),Tv.sv (Sv.one (At.ptr 8 0))),((2:Nat),Tv.sv (Sv.one (At.ptr 0 0)))] [((0:Nat),(0:Nat),At.bool false),((0:Nat),(1:Nat),At.words true []),((0:Nat),(2:Nat),At.int IntKind.i64 0),((0:Nat),(3:Nat),At.bool false),((0:Nat),(4:Nat),At.words true []),((0:Nat),(5:Nat),At.int IntKind.i64 0),((8:Nat),(0:Nat),At.bool c.neg),((8:Nat),(1:Nat),At.words false c.xs),((8:Nat),(2:Nat),At.int IntKind.i64 c.e),((8:Nat),(3:Nat),At.bool c.neg),((8:Nat),(4:Nat),At.words false c.xs),((8:Nat),(5:Nat),At.int IntKind.i64 c.e)] 14=Sg.mk [((14:Nat),Tv.sv (Sv.one (At.rows false 3 3 (At.bool b.neg :: At.words false b.xs :: At.int IntKind.i64 b.e :: ivL false (Vx.mk c d))))),((15:Nat),Tv.sv (Sv.one (At.int IntKind.i64 (↑(3:Nat):Int)))),((16:Nat),Tv.sv (Sv.one (At.int IntKind.i64 2))),((3:Nat),Tv.sv (Sv.one (At.ptr 8 0))),((2:Nat),Tv.sv (Sv.one (At.ptr 0 0)))] [((0:Nat),(0:Nat),At.bool false),((0:Nat),(1:Nat),At.words true []),((0:Nat),(2:Nat),At.int IntKind.i64 0),((0:Nat),(3:Nat),At.bool false),((0:Nat),(4:Nat),At.words true []),((0:Nat),(5:Nat),At.int IntKind.i64 0),((8:Nat),(0:Nat),At.bool v2.lo.neg),((8:Nat),(1:Nat),At.words false v2.lo.xs),((8:Nat),(2:Nat),At.int IntKind.i64 v2.lo.e),((8:Nat),(3:Nat),At.bool v2.hi.neg),((8:Nat),(4:Nat),At.words false v2.hi.xs),((8:Nat),(5:Nat),At.int IntKind.i64 v2.hi.e)] 14)                           (inR ((1:Int)+1)∧true=true∧Sg.mk [((14:Nat),Tv.sv (Sv.one (At.rows false 3 3 (At.bool b.neg :: At.words false b.xs :: At.int IntKind.i64 b.e :: ivL false (Vx.mk c d))))),((15:Nat),Tv.sv (Sv.one (At.int IntKind.i64 (↑(3:Nat):Int)))),((16:Nat),Tv.sv (Sv.one (At.int IntKind.i64 ((1:Int)+1)))),((3:Nat),Tv.sv (Sv.one (At.ptr 8 0))),((2:Nat),Tv.sv (Sv.one (At.ptr 0 0)))] [((0:Nat),(0:Nat),At.bool false),((0:Nat),(1:Nat),At.words true []),((0:Nat),(2:Nat),At.int IntKind.i64 0),((0:Nat),(3:Nat),At.bool false),((0:Nat),(4:Nat),At.words true []),((0:Nat),(5:Nat),At.int IntKind.i64 0),((8:Nat),(0:Nat),At.bool c.neg),((8:Nat),(1:Nat),At.words false c.xs),((8:Nat),(2:Nat),At.int IntKind.i64 c.e),((8:Nat),(3:Nat),At.bool v1.hi.neg),((8:Nat),(4:Nat),At.words false v1.hi.xs),((8:Nat),(5:Nat),At.int IntKind.i64 v1.hi.e)] 14=Sg.mk [((14:Nat),Tv.sv (Sv.one (At.rows false 3 3 (At.bool b.neg :: At.words false b.xs :: At.int IntKind.i64 b.e :: ivL false (Vx.mk c d))))),((15:Nat),Tv.sv (Sv.one (At.int IntKind.i64 (↑(3:Nat):Int)))),((16:Nat),Tv.sv (Sv.one (At.int IntKind.i64 2))),((3:Nat),Tv.sv (Sv.one (At.ptr 8 0))),((2:Nat),Tv.sv (Sv.one (At.ptr 0 0)))] [((0:Nat),(0:Nat),At.bool false),((0:Nat),(1:Nat),At.words true []),((0:Nat),(2:Nat),At.int IntKind.i64 0),((0:Nat),(3:Nat),At.bool false),((0:Nat),(4:Nat),At.words true []),((0:Nat),(5:Nat),At.int IntKind.i64 0),((8:Nat),(0:Nat),At.bool v2.lo.neg),((8:Nat),(1:Nat),At.words false v2.lo.xs),((8:Nat),(2:Nat),At.int IntKind.i64 v2.lo.e),((8:Nat),(3:Nat),At.bool v2.hi.neg),((8:Nat),(4:Nat),At.words false v2.hi.xs),((8:Nat),(5:Nat),At.int IntKind.i64 v2.hi.e)] 14))                       ((Dx.Sm 68719476736 c∧Dx.Sm 68719476736 v1.hi)∧                        br (ltI 0 (cmpD c v1.hi)) (inR ((1:Int)+1)∧true=true∧Sg.mk [((14:Nat),Tv.sv (Sv.one (At.rows false 3 3 (At.bool b.neg :: At.words false b.xs :: At.int IntKind.i64 b.e :: ivL false (Vx.mk c d))))),((15:Nat),Tv.sv (Sv.one (At.int IntKind.i64 (↑(3:Nat):Int)))),((16:Nat),Tv.sv (Sv.one (At.int IntKind.i64 ((1:Int)+1)))),((3:Nat),Tv.sv (Sv.one (At.ptr 8 0))),((2:Nat),Tv.sv (Sv.one (At.ptr 0 0)))] [((0:Nat),(0:Nat),At.bool false),((0:Nat),(1:Nat),At.words true []),((0:Nat),(2:Nat),At.int IntKind.i64 0),((0:Nat),(3:Nat),At.bool false),((0:Nat),(4:Nat),At.words true []),((0:Nat),(5:Nat),At.int IntKind.i64 0),((8:Nat),(0:Nat),At.bool v1.lo.neg),((8:Nat),(1:Nat),At.words false v1.lo.xs),((8:Nat),(2:Nat),At.int IntKind.i64 v1.lo.e),((8:Nat),(3:Nat),At.bool c.neg),((8:Nat),(4:Nat),At.words false c.xs),((8:Nat),(5:Nat),At.int IntKind.i64 c.e)] 14=Sg.mk [((14:Nat),Tv.sv (Sv.one (At.rows false 3 3 (At.bool b.neg :: At.words false b.xs :: At.int IntKind.i64 b.e :: ivL false (Vx.mk c d))))),((15:Nat),Tv.sv (Sv.one (At.int IntKind.i64 (↑(3:Nat):Int)))),((16:Nat),Tv.sv (Sv.one (At.int IntKind.i64 2))),((3:Nat),Tv.sv (Sv.one (At.ptr 8 0))),((2:Nat),Tv.sv (Sv.one (At.ptr 0 0)))] [((0:Nat),(0:Nat),At.bool false),((0:Nat),(1:Nat),At.words true []),((0:Nat),(2:Nat),At.int IntKind.i64 0),((0:Nat),(3:Nat),At.bool false),((0:Nat),(4:Nat),At.words true []),((0:Nat),(5:Nat),At.int IntKind.i64 0),((8:Nat),(0:Nat),At.bool v2.lo.neg),((8:Nat),(1:Nat),At.words false v2.lo.xs),((8:Nat),(2:Nat),At.int IntKind.i64 v2.lo.e),((8:Nat),(3:Nat),At.bool v2.hi.neg),((8:Nat),(4:Nat),At.words false v2.hi.xs),((8:Nat),(5:Nat),At.int IntKind.i64 v2.hi.e)] 14)                           (inR ((1:Int)+1)∧true=true∧Sg.mk [((14:Nat),Tv.sv (Sv.one (At.rows false 3 3 (At.bool b.neg :: At.words false b.xs :: At.int IntKind.i64 b.e :: ivL false (Vx.mk c d))))),((15:Nat),Tv.sv (Sv.one (At.int IntKind.i64 (↑(3:Nat):Int)))),((16:Nat),Tv.sv (Sv.one (At.int IntKind.i64 ((1:Int)+1)))),((3:Nat),Tv.sv (Sv.one (At.ptr 8 0))),((2:Nat),Tv.sv (Sv.one (At.ptr 0 0)))] [((0:Nat),(0:Nat),At.bool false),((0:Nat),(1:Nat),At.words true []),((0:Nat),(2:Nat),At.int IntKind.i64 0),((0:Nat),(3:Nat),At.bool false),((0:Nat),(4:Nat),At.words true []),((0:Nat),(5:Nat),At.int IntKind.i64 0),((8:Nat),(0:Nat),At.bool v1.lo.neg),((8:Nat),(1:Nat),At.words false v1.lo.xs),((8:Nat),(2:Nat),At.int IntKind.i64 v1.lo.e),((8:Nat),(3:Nat),At.bool v1.hi.neg),((8:Nat),(4:Nat),At.words false v1.hi.xs),((8:Nat),(5:Nat),At.int IntKind.i64 v1.hi.e)] 14=Sg.mk [((14:Nat),Tv.sv (Sv.one (At.rows false 3 3 (At.bool b.neg :: At.words false b.xs :: At.int IntKind.i64 b.e :: ivL false (Vx.mk c d))))),((15:Nat),Tv.sv (Sv.one (At.int IntKind.i64 (↑(3:Nat):Int)))),((16:Nat),Tv.sv (Sv.one (At.int IntKind.i64 2))),((3:Nat),Tv.sv (Sv.one (At.ptr 8 0))),((2:Nat),Tv.sv (Sv.one (At.ptr 0 0)))] [((0:Nat),(0:Nat),At.bool false),((0:Nat),(1:Nat),At.words true []),((0:Nat),(2:Nat),At.int IntKind.i64 0),((0:Nat),(3:Nat),At.bool false),((0:Nat),(4:Nat),At.words true []),((0:Nat),(5:Nat),At.int IntKind.i64 0),((8:Nat),(0:Nat),At.bool v2.lo.neg),((8:Nat),(1:Nat),At.words false v2.lo.xs),((8:Nat),(2:Nat),At.int IntKind.i64 v2.lo.e),((8:Nat),(3:Nat),At.bool v2.hi.neg),((8:Nat),(4:Nat),At.words false v2.hi.xs),((8:Nat),(5:Nat),At.int IntKind.i64 v2.hi.e)] 14)))∧                (((0:Int)≤2∧(2:Int)<(↑(3:Nat):Int))∧                    (Dx.Sm 68719476736 d∧Dx.Sm 68719476736 v2.lo)∧                      br (ltI (cmpD d v2.lo) 0)                         ((Dx.Sm 68719476736 d∧Dx.Sm 68719476736 v2.hi)∧                          br (ltI 0 (cmpD d v2.hi)) (inR ((2:Int)+1)∧true=true∧Sg.mk [((14:Nat),Tv.sv (Sv.one (At.rows false 3 3 (At.bool b.neg :: At.words false b.xs :: At.int IntKind.i64 b.e :: ivL false (Vx.mk c d))))),((15:Nat),Tv.sv (Sv.one (At.int IntKind.i64 (↑(3:Nat):Int)))),((16:Nat),Tv.sv (Sv.one (At.int IntKind.i64 ((2:Int)+1)))),((3:Nat),Tv.sv (Sv.one (At.ptr 8 0))),((2:Nat),Tv.sv (Sv.one (At.ptr 0 0)))] [((0:Nat),(0:Nat),At.bool false),((0:Nat),(1:Nat),At.words true []),((0:Nat),(2:Nat),At.int IntKind.i64 0),((0:Nat),(3:Nat),At.bool false),((0:Nat),(4:Nat),At.words true []),((0:Nat),(5:Nat),At.int IntKind.i64 0),((8:Nat),(0:Nat),At.bool d.neg),((8:Nat),(1:Nat),At.words false d.xs),((8:Nat),(2:Nat),At.int IntKind.i64 d.e),((8:Nat),(3:Nat),At.bool d.neg),((8:Nat),(4:Nat),At.words false d.xs),((8:Nat),(5:Nat),At.int IntKind.i64 d.e)] 14=Sg.mk [((14:Nat),Tv.sv (Sv.one (At.rows false 3 3 (At.bool b.neg :: At.words false b.xs :: At.int IntKind.i64 b.e :: ivL false (Vx.mk c d))))),((15:Nat),Tv.sv (Sv.one (At.int IntKind.i64 (↑(3:Nat):Int)))),((16:Nat),Tv.sv (Sv.one (At.int IntKind.i64 3))),((3:Nat),Tv.sv (Sv.one (At.ptr 8 0))),((2:Nat),Tv.sv (Sv.one (At.ptr 0 0)))] [((0:Nat),(0:Nat),At.bool false),((0:Nat),(1:Nat),At.words true []),((0:Nat),(2:Nat),At.int IntKind.i64 0),((0:Nat),(3:Nat),At.bool false),((0:Nat),(4:Nat),At.words true []),((0:Nat),(5:Nat),At.int IntKind.i64 0),((8:Nat),(0:Nat),At.bool v3.lo.neg),((8:Nat),(1:Nat),At.words false v3.lo.xs),((8:Nat),(2:Nat),At.int IntKind.i64 v3.lo.e),((8:Nat),(3:Nat),At.bool v3.hi.neg),((8:Nat),(4:Nat),At.words false v3.hi.xs),((8:Nat),(5:Nat),At.int IntKind.i64 v3.hi.e)] 14)                             (inR ((2:Int)+1)∧true=true∧Sg.mk [((14:Nat),Tv.sv (Sv.one (At.rows false 3 3 (At.bool b.neg :: At.words false b.xs :: At.int IntKind.i64 b.e :: ivL false (Vx.mk c d))))),((15:Nat),Tv.sv (Sv.one (At.int IntKind.i64 (↑(3:Nat):Int)))),((16:Nat),Tv.sv (Sv.one (At.int IntKind.i64 ((2:Int)+1)))),((3:Nat),Tv.sv (Sv.one (At.ptr 8 0))),((2:Nat),Tv.sv (Sv.one (At.ptr 0 0)))] [((0:Nat),(0:Nat),At.bool false),((0:Nat),(1:Nat),At.words true []),((0:Nat),(2:Nat),At.int IntKind.i64 0),((0:Nat),(3:Nat),At.bool false),((0:Nat),(4:Nat),At.words true []),((0:Nat),(5:Nat),At.int IntKind.i64 0),((8:Nat),(0:Nat),At.bool d.neg),((8:Nat),(1:Nat),At.words false d.xs),((8:Nat),(2:Nat),At.int IntKind.i64 d.e),((8:Nat),(3:Nat),At.bool v2.hi.neg),((8:Nat),(4:Nat),At.words false v2.hi.xs),((8:Nat),(5:Nat),At.int IntKind.i64 v2.hi.e)] 14=Sg.mk [((14:Nat),Tv.sv (Sv.one (At.rows false 3 3 (At.bool b.neg :: At.words false b.xs :: At.int IntKind.i64 b.e :: ivL false (Vx.mk c d))))),((15:Nat),Tv.sv (Sv.one (At.int IntKind.i64 (↑(3:Nat):Int)))),((16:Nat),Tv.sv (Sv.one (At.int IntKind.i64 3))),((3:Nat),Tv.sv (Sv.one (At.ptr 8 0))),((2:Nat),Tv.sv (Sv.one (At.ptr 0 0)))] [((0:Nat),(0:Nat),At.bool false),((0:Nat),(1:Nat),At.words true []),((0:Nat),(2:Nat),At.int IntKind.i64 0),((0:Nat),(3:Nat),At.bool false),((0:Nat),(4:Nat),At.words true []),((0:Nat),(5:Nat),At.int IntKind.i64 0),((8:Nat),(0:Nat),At.bool v3.lo.neg),((8:Nat),(1:Nat),At.words false v3.lo.xs),((8:Nat),(2:Nat),At.int IntKind.i64 v3.lo.e),((8:Nat),(3:Nat),At.bool v3.hi.neg),((8:Nat),(4:Nat),At.words false v3.hi.xs),((8:Nat),(5:Nat),At.int IntKind.i64 v3.hi.e)] 14))                         ((Dx.Sm 68719476736 d∧Dx.Sm 68719476736 v2.hi)∧                          br (ltI 0 (cmpD d v2.hi)) (inR ((2:Int)+1)∧true=true∧Sg.mk [((14:Nat),Tv.sv (Sv.one (At.rows false 3 3 (At.bool b.neg :: At.words false b.xs :: At.int IntKind.i64 b.e :: ivL false (Vx.mk c d))))),((15:Nat),Tv.sv (Sv.one (At.int IntKind.i64 (↑(3:Nat):Int)))),((16:Nat),Tv.sv (Sv.one (At.int IntKind.i64 ((2:Int)+1)))),((3:Nat),Tv.sv (Sv.one (At.ptr 8 0))),((2:Nat),Tv.sv (Sv.one (At.ptr 0 0)))] [((0:Nat),(0:Nat),At.bool false),((0:Nat),(1:Nat),At.words true []),((0:Nat),(2:Nat),At.int IntKind.i64 0),((0:Nat),(3:Nat),At.bool false),((0:Nat),(4:Nat),At.words true []),((0:Nat),(5:Nat),At.int IntKind.i64 0),((8:Nat),(0:Nat),At.bool v2.lo.neg),((8:Nat),(1:Nat),At.words false v2.lo.xs),((8:Nat),(2:Nat),At.int IntKind.i64 v2.lo.e),((8:Nat),(3:Nat),At.bool d.neg),((8:Nat),(4:Nat),At.words false d.xs),((8:Nat),(5:Nat),At.int IntKind.i64 d.e)] 14=Sg.mk [((14:Nat),Tv.sv (Sv.one (At.rows false 3 3 (At.bool b.neg :: At.words false b.xs :: At.int IntKind.i64 b.e :: ivL false (Vx.mk c d))))),((15:Nat),Tv.sv (Sv.one (At.int IntKind.i64 (↑(3:Nat):Int)))),((16:Nat),Tv.sv (Sv.one (At.int IntKind.i64 3))),((3:Nat),Tv.sv (Sv.one (At.ptr 8 0))),((2:Nat),Tv.sv (Sv.one (At.ptr 0 0)))] [((0:Nat),(0:Nat),At.bool false),((0:Nat),(1:Nat),At.words true []),((0:Nat),(2:Nat),At.int IntKind.i64 0),((0:Nat),(3:Nat),At.bool false),((0:Nat),(4:Nat),At.words true []),((0:Nat),(5:Nat),At.int IntKind.i64 0),((8:Nat),(0:Nat),At.bool v3.lo.neg),((8:Nat),(1:Nat),At.words false v3.lo.xs),((8:Nat),(2:Nat),At.int IntKind.i64 v3.lo.e),((8:Nat),(3:Nat),At.bool v3.hi.neg),((8:Nat),(4:Nat),At.words false v3.hi.xs),((8:Nat),(5:Nat),At.int IntKind.i64 v3.hi.e)] 14)                             (inR ((2:Int)+1)∧true=true∧Sg.mk [((14:Nat),Tv.sv (Sv.one (At.rows false 3 3 (At.bool b.neg :: At.words false b.xs :: At.int IntKind.i64 b.e :: ivL false (Vx.mk c d))))),((15:Nat),Tv.sv (Sv.one (At.int IntKind.i64 (↑(3:Nat):Int)))),((16:Nat),Tv.sv (Sv.one (At.int IntKind.i64 ((2:Int)+1)))),((3:Nat),Tv.sv (Sv.one (At.ptr 8 0))),((2:Nat),Tv.sv (Sv.one (At.ptr 0 0)))] [((0:Nat),(0:Nat),At.bool false),((0:Nat),(1:Nat),At.words true []),((0:Nat),(2:Nat),At.int IntKind.i64 0),((0:Nat),(3:Nat),At.bool false),((0:Nat),(4:Nat),At.words true []),((0:Nat),(5:Nat),At.int IntKind.i64 0),((8:Nat),(0:Nat),At.bool v2.lo.neg),((8:Nat),(1:Nat),At.words false v2.lo.xs),((8:Nat),(2:Nat),At.int IntKind.i64 v2.lo.e),((8:Nat),(3:Nat),At.bool v2.hi.neg),((8:Nat),(4:Nat),At.words false v2.hi.xs),((8:Nat),(5:Nat),At.int IntKind.i64 v2.hi.e)] 14=Sg.mk [((14:Nat),Tv.sv (Sv.one (At.rows false 3 3 (At.bool b.neg :: At.words false b.xs :: At.int IntKind.i64 b.e :: ivL false (Vx.mk c d))))),((15:Nat),Tv.sv (Sv.one (At.int IntKind.i64 (↑(3:Nat):Int)))),((16:Nat),Tv.sv (Sv.one (At.int IntKind.i64 3))),((3:Nat),Tv.sv (Sv.one (At.ptr 8 0))),((2:Nat),Tv.sv (Sv.one (At.ptr 0 0)))] [((0:Nat),(0:Nat),At.bool false),((0:Nat),(1:Nat),At.words true []),((0:Nat),(2:Nat),At.int IntKind.i64 0),((0:Nat),(3:Nat),At.bool false),((0:Nat),(4:Nat),At.words true []),((0:Nat),(5:Nat),At.int IntKind.i64 0),((8:Nat),(0:Nat),At.bool v3.lo.neg),((8:Nat),(1:Nat),At.words false v3.lo.xs),((8:Nat),(2:Nat),At.int IntKind.i64 v3.lo.e),((8:Nat),(3:Nat),At.bool v3.hi.neg),((8:Nat),(4:Nat),At.words false v3.hi.xs),((8:Nat),(5:Nat),At.int IntKind.i64 v3.hi.e)] 14)))∧                  Q (Tv.sv (Sv.agg (ivL false v3)))∧True):=by kernel_rfl
theorem spanS_rounds{v:Vx}{d:Dx}{p:Vx→Prop}{A:Prop}{N:Nat}(A1:A)(hv:v.Sm N)(hd:d.Sm N)(hN:N≤68719476736)(h:A→p (spanS v d)){q1 q2 q3 q4:Prop}(h1:p ⟨d,d⟩→q1)(h2:p ⟨d,v.hi⟩→q2)(h3:p ⟨v.lo,d⟩→q3)(h4:p v→q4) :
    (Dx.Sm 68719476736 d∧Dx.Sm 68719476736 v.lo)∧br (ltI (cmpD d v.lo) 0) ((Dx.Sm 68719476736 d∧Dx.Sm 68719476736 v.hi)∧br (ltI 0 (cmpD d v.hi)) q1 q2) ((Dx.Sm 68719476736 d∧Dx.Sm 68719476736 v.hi)∧br (ltI 0 (cmpD d v.hi)) q3 q4):=by
  have k:=h A1
  refine ⟨⟨hd.mono hN,hv.1.mono hN⟩,br_intro (fun e1=>⟨⟨hd.mono hN,hv.2.mono hN⟩,br_intro (fun e2=>h1 ?_) fun e2=>h2 ?_⟩) fun e1=>⟨⟨hd.mono hN,hv.2.mono hN⟩,br_intro (fun e2=>h3 ?_) fun e2=>h4 ?_⟩⟩
  · rwa [spanS,if_pos (ltI_true.1 e1),if_pos (ltI_true.1 e2)] at k
  · rwa [spanS,if_pos (ltI_true.1 e1),if_neg (ltI_false.1 e2)] at k
  · rwa [spanS,if_neg (ltI_false.1 e1),if_pos (ltI_true.1 e2)] at k
  · rwa [spanS,if_neg (ltI_false.1 e1),if_neg (ltI_false.1 e2)] at k
def rSpan:Spec:=fun l=>match l with
  | [.one (.rows false 3 2 [.bool n1,.words false x1,.int .i64 e1,.bool n2,.words false x2,.int .i64 e2])] =>
    (some (Dx.Sm 68719476736 ⟨n1,x1,e1⟩∧Dx.Sm 68719476736 ⟨n2,x2,e2⟩),vF (spanL ⟨n1,x1,e1⟩ [⟨n2,x2,e2⟩]))
  | [.one (.rows false 3 4 [.bool n1,.words false x1,.int .i64 e1,.bool n2,.words false x2,.int .i64 e2,.bool n3,.words false x3,.int .i64 e3,.bool n4,.words false x4,.int .i64 e4])] =>
    (some (Dx.Sm 68719476736 ⟨n1,x1,e1⟩∧Dx.Sm 68719476736 ⟨n2,x2,e2⟩∧Dx.Sm 68719476736 ⟨n3,x3,e3⟩∧Dx.Sm 68719476736 ⟨n4,x4,e4⟩),vF (spanL ⟨n1,x1,e1⟩ [⟨n2,x2,e2⟩,⟨n3,x3,e3⟩,⟨n4,x4,e4⟩]))
  | _=>noSpec
theorem rSpan_ok:SpecOk Tryz.prog 57 rSpan :=
  specOk_at (envOk tys_ok sRaw4_ok) mixed Tryz.func57 rfl (by decide) 1 (by decide) fun l p t e hp=>by
    unfold rSpan at e
    split at e
    · rename_i n1 x1 e1 n2 x2 e2
      cases e
      obtain ⟨s1,s2⟩:=hp
      refine ⟨Nat.le_refl 1,_,0,(rSpan2_vc ⟨n1,x1,e1⟩ ⟨n2,x2,e2⟩ _).mpr ?_⟩
      refine ⟨⟨by omega,by omega⟩,⟨by omega,by omega⟩,rfl,⟨by omega,by omega⟩,rfl,rfl,⟨⟨by omega,by omega⟩,?_⟩,rfl,trivial⟩
      refine spanS_rounds (p:=fun v=>spanS ⟨⟨n1,x1,e1⟩,⟨n1,x1,e1⟩⟩ ⟨n2,x2,e2⟩=v) trivial ⟨s1,s1⟩ s2 (by omega) (fun _=>rfl) ?_ ?_ ?_ ?_<;>exact fun e=>⟨⟨by omega,by omega⟩,rfl,by rw [e];rfl⟩
    · rename_i n1 x1 e1 n2 x2 e2 n3 x3 e3 n4 x4 e4
      cases e
      obtain ⟨s1,s2,s3,s4⟩:=hp
      refine ⟨Nat.le_refl 1,_,0,(rSpan4_vc ⟨n1,x1,e1⟩ ⟨n2,x2,e2⟩ ⟨n3,x3,e3⟩ ⟨n4,x4,e4⟩ (spanL ⟨n1,x1,e1⟩ [⟨n2,x2,e2⟩]) (spanL ⟨n1,x1,e1⟩ [⟨n2,x2,e2⟩,⟨n3,x3,e3⟩]) (spanL ⟨n1,x1,e1⟩ [⟨n2,x2,e2⟩,⟨n3,x3,e3⟩,⟨n4,x4,e4⟩]) _).mpr ?_⟩
      have t2:Vx.Sm 68719476736 (spanL ⟨n1,x1,e1⟩ [⟨n2,x2,e2⟩]):=spanS_sm ⟨s1,s1⟩ s2
      have t3:Vx.Sm 68719476736 (spanL ⟨n1,x1,e1⟩ [⟨n2,x2,e2⟩,⟨n3,x3,e3⟩]):=spanS_sm t2 s3
      refine ⟨⟨by omega,by omega⟩,⟨by omega,by omega⟩,rfl,⟨by omega,by omega⟩,rfl,rfl,⟨⟨by omega,by omega⟩,?_⟩,⟨⟨by omega,by omega⟩,?_⟩,⟨⟨by omega,by omega⟩,?_⟩,rfl,trivial⟩
      · refine spanS_rounds (p:=fun v=>spanL ⟨n1,x1,e1⟩ [⟨n2,x2,e2⟩]=v) trivial ⟨s1,s1⟩ s2 (by omega) (fun _=>rfl) ?_ ?_ ?_ ?_<;>exact fun e=>⟨⟨by omega,by omega⟩,rfl,by rw [e];rfl⟩
      · refine spanS_rounds (p:=fun v=>spanL ⟨n1,x1,e1⟩ [⟨n2,x2,e2⟩,⟨n3,x3,e3⟩]=v) trivial t2 s3 (by omega) (fun _=>rfl) ?_ ?_ ?_ ?_<;>exact fun e=>⟨⟨by omega,by omega⟩,rfl,by rw [e];rfl⟩
      · refine spanS_rounds (p:=fun v=>spanL ⟨n1,x1,e1⟩ [⟨n2,x2,e2⟩,⟨n3,x3,e3⟩,⟨n4,x4,e4⟩]=v) trivial t3 s4 (by omega) (fun _=>rfl) ?_ ?_ ?_ ?_<;>exact fun e=>⟨⟨by omega,by omega⟩,rfl,by rw [e];rfl⟩
    · cases e;exact hp.elim
theorem mkD_p{neg:Bool}{m e:Int}:0≤(mkD neg m e).m:=val_nonneg (mkD_words _ _ _)
theorem mkS_p{s e:Int}:0≤(mkS s e).m:=mkD_p
theorem oneD_p{d:Dx}:0≤(oneD d).m:=mkD_p
theorem negD_p{d:Dx}:0≤(negD d).m:=mkD_p
theorem absD_p{d:Dx}:0≤(absD d).m:=mkD_p
theorem shiftD_p{d:Dx}{n:Int}:0≤(shiftD d n).m:=mkD_p
theorem timesD_p{a b:Dx}:0≤(timesD a b).m:=mkD_p
theorem plusX_p{a b:Dx}(ha:0≤a.m)(hb:0≤b.m):0≤(plusX a b).m:=by
  unfold plusX
  split
  · exact hb
  · split
    · exact ha
    · exact mkS_p
theorem plusD_p{a b:Dx}:0≤(plusD a b).m:=plusX_p oneD_p oneD_p
theorem lessD_p{a b:Dx}:0≤(lessD a b).m:=plusD_p
theorem cutX_p{x:Dx}{p:Int}{up:Bool}(h:0≤x.m):0≤(cutX x p up).m:=by
  unfold cutX;split
  · exact h
  · exact mkD_p
theorem cutD_p{x:Dx}{p:Int}{up:Bool}:0≤(cutD x p up).m:=cutX_p oneD_p
theorem timesD_sm{a b:Dx}{N M:Nat}(ha:0≤a.m)(hb:0≤b.m)(sa:a.Sm N)(sb:b.Sm M):(timesD a b).Sm (N+M+(N+M)):=by
  obtain ⟨s1,s2,s3⟩:=sa
  obtain ⟨s4,s5,s6⟩:=sb
  have:=blen_mul ha hb
  exact mkD_sm (Int.mul_nonneg ha hb) (by omega) (by omega) (by omega)
theorem shiftD_sm{d:Dx}{N M:Nat}{n:Int}(h:0≤d.m)(s:d.Sm N)(n0:-(M:Int)≤n)(n1:n≤M):(shiftD d n).Sm (N+(N+M)):=by
  obtain ⟨s1,s2,s3⟩:=s
  exact mkD_sm h s1 (by omega) (by omega)
theorem absD_sm{d:Dx}{N:Nat}(h:0≤d.m)(s:d.Sm N):(absD d).Sm (N+N):=mkD_sm h s.1 s.2.1 s.2.2
theorem blen_natAbs_add{X Y:Int}{N:Nat}(h1:blen (X.natAbs:Int)≤N)(h2:blen (Y.natAbs:Int)≤N):blen ((X+Y).natAbs:Int)≤N+1:=by
  refine blen_le ?_
  have e1:=blen_lt (X.natAbs:Int)
  have e2:=blen_lt (Y.natAbs:Int)
  have f1:(2:Int)^blen (X.natAbs:Int)≤2^N:=two_pow_le h1
  have f2:(2:Int)^blen (Y.natAbs:Int)≤2^N:=two_pow_le h2
  rw [Int.pow_succ];omega
theorem mkS_sm{s e:Int}{N M:Nat}(hb:blen (s.natAbs:Int)≤N)(e0:-(M:Int)≤e)(e1:e≤M):(mkS s e).Sm (N+M):=mkD_sm (by omega) hb e0 e1
theorem sm_abs{d:Dx}(h:0≤d.m)(k:Nat):((d.sm*2^k).natAbs:Int)=d.m*2^k:=by
  have:=two_pow_pos k
  have h1:0≤d.m*2^k:=Int.mul_nonneg h (by omega)
  unfold Dx.sm;rw [sm_mul];split<;>omega
theorem plusX_sm{x y:Dx}{N:Nat}(hx:0≤x.m)(hy:0≤y.m)(sx:x.Sm N)(sy:y.Sm N):(plusX x y).Sm (3*N+1+N):=by
  unfold plusX
  split
  · exact sy.mono (by omega)
  · split
    · exact sx.mono (by omega)
    · obtain ⟨s1,s2,s3⟩:=sx
      obtain ⟨s4,s5,s6⟩:=sy
      refine mkS_sm (blen_natAbs_add ?_ ?_) (by omega) (by omega)
      · rw [sm_abs hx,blen_mul_pow (by omega)];omega
      · rw [sm_abs hy,blen_mul_pow (by omega)];omega
theorem plusD_sm{x y:Dx}{N:Nat}(hx:0≤x.m)(hy:0≤y.m)(sx:x.Sm N)(sy:y.Sm N):(plusD x y).Sm (8*N+1) :=
  (plusX_sm oneD_p oneD_p (one_sm hx sx) (one_sm hy sy)).mono (by omega)
theorem lessD_sm{x y:Dx}{N:Nat}(hx:0≤x.m)(hy:0≤y.m)(sx:x.Sm N)(sy:y.Sm N):(lessD x y).Sm (16*N+1) :=
  (plusD_sm hx negD_p (sx.mono (show N≤N+N by omega)) (negD_sm sy hy)).mono (by omega)
theorem cutX_sm{x:Dx}{N:Nat}{p:Int}{up:Bool}(hx:0≤x.m)(sx:x.Sm N)(hp:0≤p):(cutX x p up).Sm (3*N+1):=by
  unfold cutX
  split
  · exact sx.mono (by omega)
  · obtain ⟨s1,s2,s3⟩:=sx
    have q0:0≤x.m/2^((blen x.m:Int)-p).toNat:=Int.ediv_nonneg hx (Int.le_of_lt (two_pow_pos _))
    have q1:=blen_mono (m:=x.m/2^((blen x.m:Int)-p).toNat) (n:=x.m) (Int.ediv_le_self _ hx)
    refine (mkD_sm (N:=N+1) (M:=N+N) ?_ ?_ (by omega) (by omega)).mono (by omega)
    · split<;>omega
    · have:=blen_lt (x.m/2^((blen x.m:Int)-p).toNat)
      have f1:(2:Int)^blen (x.m/2^((blen x.m:Int)-p).toNat)≤2^N:=two_pow_le (by omega)
      have f2:=two_pow_pos N
      refine blen_le ?_
      rw [Int.pow_succ];split<;>omega
theorem cutD_sm{x:Dx}{N:Nat}{p:Int}{up:Bool}(hx:0≤x.m)(sx:x.Sm N)(hp:0≤p):(cutD x p up).Sm (6*N+1):=(cutX_sm oneD_p (one_sm hx sx) hp).mono (by omega)
def Vx.P(v:Vx):Prop:=0≤v.lo.m∧0≤v.hi.m
theorem Vx.Sm.mono{N M:Nat}{v:Vx}(h:v.Sm N)(k:N≤M):v.Sm M:=⟨h.1.mono k,h.2.mono k⟩
theorem Vx.Wf.p{v:Vx}(h:v.Wf):v.P:=⟨h.1.m0,h.2.m0⟩
def pointV(d:Dx):Vx:=⟨oneD d,oneD d⟩
def trimV(v:Vx)(p:Int):Vx:=⟨cutD v.lo p false,cutD v.hi p true⟩
def turnV(v:Vx):Vx:=⟨negD v.hi,negD v.lo⟩
def rightV(v:Vx):Bool:=v.lo.fitsB && (v.hi.fitsB && decide (cmpD v.lo v.hi≤0))
def zeroV(v:Vx):Bool:=decide (v.lo.sgn≤0) && decide (0≤v.hi.sgn)
def prodV(v u:Vx):Vx:=spanL (timesD v.lo u.lo) [timesD v.lo u.hi,timesD v.hi u.lo,timesD v.hi u.hi]
def timesV(v u:Vx)(p:Int):Vx:=trimV (prodV v u) p
theorem spanS_p{v:Vx}{d:Dx}(h:v.P)(k:0≤d.m):(spanS v d).P:=by
  unfold spanS
  constructor
  · show 0≤Dx.m (if _ then _ else _);split<;>first | exact k | exact h.1
  · show 0≤Dx.m (if _ then _ else _);split<;>first | exact k | exact h.2
theorem span4_p{a b c d:Dx}(ha:0≤a.m)(hb:0≤b.m)(hc:0≤c.m)(hd:0≤d.m):(spanL a [b,c,d]).P:=spanS_p (spanS_p (spanS_p ⟨ha,ha⟩ hb) hc) hd
theorem span4_sm{a b c d:Dx}{N:Nat}(ha:a.Sm N)(hb:b.Sm N)(hc:c.Sm N)(hd:d.Sm N):(spanL a [b,c,d]).Sm N:=spanS_sm (spanS_sm (spanS_sm ⟨ha,ha⟩ hb) hc) hd
theorem prodV_p(v u:Vx):(prodV v u).P:=span4_p timesD_p timesD_p timesD_p timesD_p
theorem prodV_sm{v u:Vx}{N:Nat}(hv:v.P)(hu:u.P)(sv:v.Sm N)(su:u.Sm N):(prodV v u).Sm (N+N+(N+N)) :=
  span4_sm (timesD_sm hv.1 hu.1 sv.1 su.1) (timesD_sm hv.1 hu.2 sv.1 su.2) (timesD_sm hv.2 hu.1 sv.2 su.1) (timesD_sm hv.2 hu.2 sv.2 su.2)
def sRaw5:List (FuncId×Spec):=[(57,rSpan)] ++ sRaw4
theorem sRaw5_ok:SpecsOk Tryz.prog sRaw5:=⟨rSpan_ok,sRaw4_ok⟩
def eB(N:Int)(d:Dx):Prop:=-N≤d.e∧d.e≤N
def rPoint:Spec:=specK [.d] fun (d:Dx)=>(some (eB 4611686018427387904 d),vT (pointV d))
theorem rPoint_vc(d:Dx)(Q:Tv→Prop):execF ⟨tys,sRaw5⟩ (fun _=>none) 0 Tryz.f54 [.agg (dyL false d)] Q=(((-4611686018427387904:Int)≤d.e∧d.e≤4611686018427387904)∧((-4611686018427387904:Int)≤d.e∧d.e≤4611686018427387904)∧true=true∧Q (Tv.sv (Sv.agg (ivL true (Vx.mk (oneD d) (oneD d)))))):=by kernel_rfl
theorem rPoint_ok:SpecOk Tryz.prog 54 rPoint :=
  specK_ok (envOk tys_ok sRaw5_ok) mixed Tryz.func54 rfl (by decide) (by decide) fun (d:Dx) _ hp=>⟨fun _=>none,0,(rPoint_vc d _).mpr ⟨hp,hp,rfl,rfl⟩⟩
def rTrim:Spec:=specK [.v,.i .i64] fun (v:Vx) (p:Int)=>(some (v.Sm 34359738368∧0≤p∧p≤1099511627776),vT (trimV v p))
theorem rTrim_vc(v:Vx)(p:Int)(Q:Tv→Prop):execF ⟨tys,sRaw5⟩ (fun _=>none) 0 Tryz.f50 [.agg (ivL false v),.one (.int .i64 p)] Q=((Dx.Sm 34359738368 v.lo∧(0:Int)≤p∧p≤1099511627776)∧(Dx.Sm 34359738368 v.hi∧(0:Int)≤p∧p≤1099511627776)∧true=true∧Q (Tv.sv (Sv.agg (ivL true (Vx.mk (cutD v.lo p false) (cutD v.hi p true)))))):=by kernel_rfl
theorem rTrim_ok:SpecOk Tryz.prog 50 rTrim :=
  specK_ok (envOk tys_ok sRaw5_ok) mixed Tryz.func50 rfl (by decide) (by decide) fun (v:Vx) _ (p:Int) _ hp=>⟨fun _=>none,0,(rTrim_vc v p _).mpr ⟨⟨hp.1.1,hp.2⟩,⟨hp.1.2,hp.2⟩,rfl,rfl⟩⟩
theorem fits_sm{d:Dx}(h:d.fitsB=true):d.Sm 65536:=by
  unfold Dx.fitsB greatB at h
  simp at h
  obtain ⟨⟨h1,h2⟩,h3⟩:=h
  refine ⟨?_,by omega,by omega⟩
  by_cases hp:0<d.m
  · have:=blen_last hp
    have h2:=(words_ws d.m).nth ((ws d.m).length-1)
    have hb:blen (nth (ws d.m) ((ws d.m).length-1))≤64:=blen_le (by have:=h2.2;simp at this ⊢;omega)
    omega
  · have:blen d.m≤0:=blen_le (by show d.m<2^0;omega)
    omega
def rRight:Spec:=specK [.v] fun (v:Vx)=>(none,bT (rightV v))
theorem rRight_vc(v:Vx)(Q:Tv→Prop):execF ⟨tys,sRaw5⟩ (fun _=>none) 0 Tryz.f51 [.agg (ivL false v)] Q=(br (Dx.fitsB v.lo) (br (Dx.fitsB v.hi) ((Dx.Sm 68719476736 v.lo∧Dx.Sm 68719476736 v.hi)∧Q (Tv.sv (Sv.one (At.bool (leI (cmpD v.lo v.hi) 0))))) (Q (Tv.sv (Sv.one (At.bool false))))) (Q (Tv.sv (Sv.one (At.bool false))))):=by kernel_rfl
theorem rRight_ok:SpecOk Tryz.prog 51 rRight :=
  specK_ok (envOk tys_ok sRaw5_ok) mixed Tryz.func51 rfl (by decide) (by decide) fun (v:Vx) _ _=>⟨fun _=>none,0,by
    refine (rRight_vc v _).mpr (br_intro (fun h1=>br_intro (fun h2=>⟨⟨(fits_sm h1).mono (by omega),(fits_sm h2).mono (by omega)⟩,?_⟩) fun h2=>?_) fun h1=>?_)
    · show _=bT (rightV v);rw [rightV,h1,h2];rfl
    · show _=bT (rightV v);rw [rightV,h1,h2];rfl
    · show _=bT (rightV v);rw [rightV,h1];rfl⟩
def rHolds0:Spec:=specK [.v] fun (v:Vx)=>(none,bT (zeroV v))
theorem rHolds0_vc(v:Vx)(Q:Tv→Prop):execF ⟨tys,sRaw5⟩ (fun _=>none) 0 Tryz.f58 [.agg (ivL false v)] Q=(br (leI (Dx.sgn v.lo) 0) (Q (Tv.sv (Sv.one (At.bool (leI 0 (Dx.sgn v.hi)))))) (Q (Tv.sv (Sv.one (At.bool false))))):=by kernel_rfl
theorem rHolds0_ok:SpecOk Tryz.prog 58 rHolds0 :=
  specK_ok (envOk tys_ok sRaw5_ok) mixed Tryz.func58 rfl (by decide) (by decide) fun (v:Vx) _ _=>⟨fun _=>none,0,by
    refine (rHolds0_vc v _).mpr (br_intro (fun h1=>?_) fun h1=>?_)
    · show _=bT (zeroV v);rw [zeroV,show decide (v.lo.sgn≤0)=true from h1];rfl
    · show _=bT (zeroV v);rw [zeroV,show decide (v.lo.sgn≤0)=false from h1];rfl⟩
def sRaw6:List (FuncId×Spec):=[(54,rPoint),(50,rTrim),(51,rRight),(58,rHolds0)] ++ sRaw5
theorem sRaw6_ok:SpecsOk Tryz.prog sRaw6:=⟨rPoint_ok,rTrim_ok,rRight_ok,rHolds0_ok,sRaw5_ok⟩
def sRaw7:List (FuncId×Spec):=sRaw6
theorem sRaw7_ok:SpecsOk Tryz.prog sRaw7:=sRaw6_ok
theorem Dx.Sm.eB{N:Nat}{M:Int}{d:Dx}(h:d.Sm N)(k:(N:Int)≤M):eB M d:=⟨by have:=h.2.1;omega,by have:=h.2.2;omega⟩
def rTimes:Spec:=specK [.v,.v,.i .i64] fun (v:Vx) (u:Vx) (p:Int)=>(some (v.Sm 268435456∧u.Sm 268435456∧0≤p∧p≤1099511627776),vT (timesV v u p))
theorem rTimes_vc(v u:Vx)(p:Int)(Q:Tv→Prop):execF ⟨tys,sRaw7⟩ (fun _=>none) 0 Tryz.f53 [.agg (ivL false v),.agg (ivL false u),.one (.int .i64 p)] Q=((Dx.Sm 274877906944 v.lo∧Dx.Sm 274877906944 u.lo)∧(Dx.Sm 274877906944 v.lo∧Dx.Sm 274877906944 u.hi)∧(Dx.Sm 274877906944 v.hi∧Dx.Sm 274877906944 u.lo)∧(Dx.Sm 274877906944 v.hi∧Dx.Sm 274877906944 u.hi)∧(Dx.Sm 68719476736 (timesD v.lo u.lo)∧Dx.Sm 68719476736 (timesD v.lo u.hi)∧Dx.Sm 68719476736 (timesD v.hi u.lo)∧Dx.Sm 68719476736 (timesD v.hi u.hi))∧(Vx.Sm 34359738368 (spanL (timesD v.lo u.lo) [timesD v.lo u.hi,timesD v.hi u.lo,timesD v.hi u.hi])∧(0:Int)≤p∧p≤1099511627776)∧true=true∧Q (Tv.sv (Sv.agg (ivL true (trimV (spanL (timesD v.lo u.lo) [timesD v.lo u.hi,timesD v.hi u.lo,timesD v.hi u.hi]) p))))):=by kernel_rfl
theorem rTimes_ok:SpecOk Tryz.prog 53 rTimes :=
  specK_ok (envOk tys_ok sRaw7_ok) mixed Tryz.func53 rfl (by decide) (by decide) fun (v:Vx) hv (u:Vx) hu (p:Int) _ hp=>⟨fun _=>none,0,by
    obtain ⟨sv,su,p0,p1⟩:v.Sm 268435456∧u.Sm 268435456∧0≤p∧p≤1099511627776:=hp
    have v1:=Dx.Wf.m0 hv.1
    have v2:=Dx.Wf.m0 hv.2
    have u1:=Dx.Wf.m0 hu.1
    have u2:=Dx.Wf.m0 hu.2
    have sz:∀ {a b:Dx},0≤a.m→0≤b.m→a.Sm 268435456→b.Sm 268435456→(timesD a b).Sm 68719476736:=fun ha hb sa sb=>(timesD_sm ha hb sa sb).mono (by omega)
    have sm:∀ {a:Dx},a.Sm 268435456→a.Sm 274877906944:=fun h=>h.mono (by omega)
    exact (rTimes_vc v u p _).mpr ⟨⟨sm sv.1,sm su.1⟩,⟨sm sv.1,sm su.2⟩,⟨sm sv.2,sm su.1⟩,⟨sm sv.2,sm su.2⟩,⟨sz v1 u1 sv.1 su.1,sz v1 u2 sv.1 su.2,sz v2 u1 sv.2 su.1,sz v2 u2 sv.2 su.2⟩,⟨(prodV_sm (Vx.Wf.p hv) (Vx.Wf.p hu) sv su).mono (by omega),p0,p1⟩,rfl,rfl⟩⟩
def narrowX(w l:Dx)(p:Int):Bool :=
  decide (p≤1048576) && (decide (w.e+(blen w.m:Int)-1+p≤l.e+(blen l.m:Int)-1+1) && decide (cmpD (shiftD w p) l≤0))
def narrowV(v:Vx)(p:Int):Bool :=
  if v.lo.sgn≠v.hi.sgn then false else if v.lo.sgn=0 then true else if (lessD v.hi v.lo).zeroB then true else narrowX (lessD v.hi v.lo) (if v.lo.sgn<0 then absD v.hi else absD v.lo) p
def sRaw8:List (FuncId×Spec):=[(53,rTimes)] ++ sRaw7
theorem sRaw8_ok:SpecsOk Tryz.prog sRaw8:=⟨rTimes_ok,sRaw7_ok⟩
def fgA:At→At
  | .words _ xs=>.words false xs
  | a=>a
def fgL:List At→List At
  | []=>[]
  | a :: l=>fgA a :: fgL l
def fgS:Sv→Sv
  | .one a=>.one (fgA a)
  | .agg l=>.agg (fgL l)
def fgSs:List Sv→List Sv
  | []=>[]
  | a :: l=>fgS a :: fgSs l
def fgT:Tv→Tv
  | .sv s=>.sv (fgS s)
  | .tup l=>.tup (fgSs l)
section
variable {C:Base} {w:World}
theorem rep_fgA{v:Value}{a:At}(h:Rep C noBox w v a):Rep C noBox w v (fgA a):=by
  cases a with
  | words nw xs=>exact (rep_wf h).2
  | _=>exact h
theorem rep_fgL:∀ {vs:List Value} {l:List At},RepL C noBox w vs l→RepL C noBox w vs (fgL l)
  | [],[],_=>trivial
  | _ :: _,_ :: _,⟨h,k⟩=>⟨rep_fgA h,rep_fgL k⟩
theorem rep_fgS{v:Value}{s:Sv}(h:RepS C noBox w v s):RepS C noBox w v (fgS s):=by
  cases s with
  | one a=>exact rep_fgA h
  | agg l=>obtain ⟨vs,e,h⟩:=h;exact ⟨vs,e,rep_fgL h⟩
theorem rep_fgSs:∀ {vs:List Value} {l:List Sv},RepSs C noBox w vs l→RepSs C noBox w vs (fgSs l)
  | [],[],_=>trivial
  | _ :: _,_ :: _,⟨h,k⟩=>⟨rep_fgS h,rep_fgSs k⟩
theorem rep_fgT{v:Value}{t:Tv}(h:RepT C noBox w v t):RepT C noBox w v (fgT t):=by
  cases t with
  | sv s=>exact rep_fgS h
  | tup l=>obtain ⟨vs,e,h⟩:=h;exact ⟨vs,e,rep_fgSs h⟩
end
def wf1:At→Prop
  | .words _ xs=>WfW xs
  | _=>True
def wfL:List At→Prop
  | []=>True
  | a :: l=>wf1 a∧wfL l
def wfB:At→Prop
  | .ref cs=>wfL cs
  | .rows _ _ _ cs=>wfL cs
  | a=>wf1 a
def wfBs:List At→Prop
  | []=>True
  | a :: l=>wfB a∧wfBs l
def wfS:Sv→Prop
  | .one (.fn _ cs)=>wfBs cs
  | .one a=>wfB a
  | .agg l=>wfBs l
def wfSs:List Sv→Prop
  | []=>True
  | s :: l=>wfS s∧wfSs l
section
variable {C:Base} {w:World}
theorem rep_wf1{v:Value}{a:At}(h:Rep C noBox w v a):wf1 a:=by
  cases a with
  | words nw xs=>exact (rep_wf h).1
  | _=>exact trivial
theorem rep_wfL(f:Nat→Value):∀ (l:List At) (k:Nat),(∀ (i:Nat) a,l[i]?=some a→Rep C noBox w (f (k+i)) a)→wfL l
  | [],_,_=>trivial
  | a :: l,k,h=>⟨rep_wf1 (h 0 a rfl),rep_wfL f l (k+1) fun i x hx=>by have:=h (i+1) x hx;rwa [show k+(i+1)=k+1+i by omega] at this⟩
theorem rep_wfB{v:Value}{a:At}(h:Rep C noBox w v a):wfB a:=by
  cases h with
  | words h=>exact rep_wf1 (.words h)
  | ref vs _ _ _ h=>exact rep_wfL vs _ 0 fun i a hi=>by rw [Nat.zero_add];exact h i a hi
  | rows vs _ _ _ _ _ _ _ _ h=>exact rep_wfL vs _ 0 fun i a hi=>by rw [Nat.zero_add];exact h i a hi
  | _=>exact trivial
theorem rep_wfBs:∀ {vs:List Value} {l:List At},RepL C noBox w vs l→wfBs l
  | [],[],_=>trivial
  | _ :: _,_ :: _,⟨h,k⟩=>⟨rep_wfB h,rep_wfBs k⟩
theorem rep_wfBs':∀ {vs:List Value} {l:List At},vs.length=l.length→(∀ (i:Nat) v a,vs[i]?=some v→l[i]?=some a→Rep C noBox w v a)→wfBs l
  | [],[],_,_=>trivial
  | v :: _,a :: _,hl,h=>⟨rep_wfB (h 0 v a rfl rfl),rep_wfBs' (by simpa using hl) fun i v a hv ha=>h (i+1) v a hv ha⟩
theorem rep_wfS{v:Value}{s:Sv}(h:RepS C noBox w v s):wfS s:=by
  cases s with
  | agg l=>obtain ⟨vs,e,h⟩:=h;exact rep_wfBs h
  | one a =>
    have q:Rep C noBox w v a:=h
    clear h
    cases q with
    | fn hl k=>exact rep_wfBs' hl k
    | words k=>exact rep_wfB (.words k)
    | ref vs hg ha hc k=>exact rep_wfB (.ref vs hg ha hc k)
    | rows vs hl hn hm hg ha hX hb hc k=>exact rep_wfB (.rows vs hl hn hm hg ha hX hb hc k)
    | _=>exact trivial
theorem rep_wfSs:∀ {vs:List Value} {l:List Sv},RepSs C noBox w vs l→wfSs l
  | [],[],_=>trivial
  | _ :: _,_ :: _,⟨h,k⟩=>⟨rep_wfS h,rep_wfSs k⟩
end
theorem specOk_pat {P : Program} {E : Env} (hE : EnvOk P E) (hm : P.follows .mixedOrders = true) {f : FuncId} {fn : Func} {c : Code} (hf : P.funcs[f]? = some fn) (hb : fn.body = some c) (hname : (fn.name == "runtime.NumGoroutine") = false) {sp : Spec} (k : Nat) (hk : k ≤ fn.ntmps)
    (h:∀ l p t,wfSs l→sp l=(p,t)→(match p with | none=>True | some p=>p)→l.length≤k∧∃ inv fuel,execF E inv fuel fn l (fun x=>x=t∨fgT x=t)):SpecOk P f sp:=by
  refine ⟨⟨fn,c,hf,hname,hb⟩,fun C w vs l hC hX hT hvs hp=>?_⟩
  obtain ⟨hl,inv,fuel,h⟩:=h l (sp l).1 (sp l).2 (rep_wfSs hvs) rfl hp
  refine (execF_ok hE hm hf h hC hX hT hvs (by rw [hvs.length];omega)).mono ?_
  rintro e w' ⟨v,t,rfl,h0,h1,h2⟩
  rcases h0 with rfl | h0
  · exact ⟨v,rfl,h1,h2⟩
  · exact ⟨v,rfl,h0 ▸ rep_fgT h1,h2⟩
def VcKW(E:Env)(fn:Func):(ks:List Ak)→AFun ks→(List Sv→List Sv)→Prop
  | [],g,acc=>(match g.1 with | none=>True | some p=>p)→∃ inv fuel,execF E inv fuel fn (acc []) (fun t=>t=g.2∨fgT t=g.2)
  | k :: ks,g,acc=>∀ x:k.T,k.wf x→VcKW E fn ks (g x) (fun r=>acc (k.enc x :: r))
theorem specKW_ok {P : Program} {E : Env} (hE : EnvOk P E) (hm : P.follows .mixedOrders = true) {f : FuncId} {fn : Func} {c : Code} (hf : P.funcs[f]? = some fn) (hb : fn.body = some c) (hname : (fn.name == "runtime.NumGoroutine") = false) {ks : List Ak} {g : AFun ks} (hk : ks.length ≤ fn.ntmps)
    (h:VcKW E fn ks g id):SpecOk P f (specK ks g):=by
  refine ⟨⟨fn,c,hf,hname,hb⟩,fun C w vs l hC hX hT hvs hp=>?_⟩
  have key:∀ (ks:List Ak) (g:AFun ks) (acc:List Sv→List Sv) (l:List Sv) (vs:List Value),VcKW E fn ks g acc→RepSs C noBox w vs l→(match (specK ks g l).1 with | none=>True | some p=>p) →
      l.length=ks.length∧∃ l',RepSs C noBox w vs l'∧l'.length=ks.length∧∃ inv fuel,execF E inv fuel fn (acc l') (fun t=>t=(specK ks g l).2∨fgT t=(specK ks g l).2):=by
    intro ks
    induction ks with
    | nil =>
      intro g acc l vs h hr hp
      cases l with
      | nil=>exact ⟨rfl,[],hr,rfl,h hp⟩
      | cons=>exact hp.elim
    | cons k ks ih =>
      intro g acc l vs h hr hp
      cases l with
      | nil=>exact hp.elim
      | cons s l =>
        cases vs with
        | nil=>exact hr.elim
        | cons v vs =>
          have e:specK (k :: ks) g (s :: l)=(match k.dec s with | some x=>specK ks (g x) l | none=>noSpec):=rfl
          rw [e] at hp ⊢
          cases hd:k.dec s with
          | none=>rw [hd] at hp;exact hp.elim
          | some x =>
            rw [hd] at hp
            obtain ⟨h1,h2⟩:=dec_ok hd hr.1
            obtain ⟨h3,l',h4,h5,h6⟩:=ih (g x) _ l vs (h x h1) hr.2 hp
            exact ⟨by simp [h3],k.enc x :: l',⟨h2,h4⟩,by simp [h5],h6⟩
  obtain ⟨h1,l',h2,h3,inv,fuel,h4⟩:=key ks g id l vs h hvs hp
  refine (execF_ok hE hm hf h4 hC hX hT h2 (by rw [hvs.length,h1];exact hk)).mono ?_
  rintro e w' ⟨v,t,rfl,h0,h1,h2⟩
  rcases h0 with rfl | h0
  · exact ⟨v,rfl,h1,h2⟩
  · exact ⟨v,rfl,h0 ▸ rep_fgT h1,h2⟩
def tyF3:TyRow:=⟨63,1,false,[.lit .nilFunc],.func⟩
def tys2:List TyRow:=[tyF3] ++ tys
theorem tys2_ok:RowsOk Tryz.prog tys2:=⟨by kernel_rfl,tys_ok⟩
@[match_pattern] abbrev cD (n:Bool) (xs:List Int) (e:Int):List At:=[.bool n,.words false xs,.int .i64 e]
@[match_pattern] abbrev cV (n:Bool) (xs:List Int) (e:Int) (n':Bool) (xs':List Int) (e':Int):List At:=[.bool n,.words false xs,.int .i64 e,.bool n',.words false xs',.int .i64 e']
def zeroIv:Vx:=⟨⟨false,[],0⟩,⟨false,[],0⟩⟩
def reT(r:Vx×Int):Tv:=.tup [.agg (ivL false r.1),.one (.int .i64 r.2)]
theorem not_true{b:Bool}(h:(!b)=true):b=false:=by cases b<;>simp_all
theorem not_false'{b:Bool}(h:(!b)=false):b=true:=by cases b<;>simp_all
theorem right_fits{v:Vx}(h:rightV v=true):v.lo.fitsB=true∧v.hi.fitsB=true∧cmpD v.lo v.hi≤0:=by
  unfold rightV at h;simpa using h
theorem right_sm{v:Vx}(h:rightV v=true):v.Sm 65536:=⟨fits_sm (right_fits h).1,fits_sm (right_fits h).2.1⟩
def checkR(v:Vx):Int:=if rightV v=true then 0 else 2
def vCk:Spec:=specK [.v] fun (v:Vx)=>(none,iT (checkR v))
theorem vCk_vc(v:Vx)(Q:Tv→Prop):execF ⟨tys2,sRaw8⟩ (fun _=>none) 0 Tryz.f24 [.agg (ivL false v)] Q=(br (!rightV v) (Q (Tv.sv (Sv.one (At.int IntKind.i64 2)))) (Q (Tv.sv (Sv.one (At.int IntKind.i64 0))))):=by kernel_rfl
theorem vCk_ok:SpecOk Tryz.prog 24 vCk :=
  specK_ok (envOk tys2_ok sRaw8_ok) mixed Tryz.func24 rfl (by decide) (by decide) fun (v:Vx) _ _=>⟨fun _=>none,0,by
    show execF _ _ _ _ _ (fun t=>t=iT (checkR v))
    refine (vCk_vc v _).mpr (br_intro (fun h=>?_) fun h=>?_)
    · rw [checkR,not_true h];rfl
    · rw [checkR,not_false' h];rfl⟩
def meetsV(v u:Vx):Bool:=rightV v && (rightV u && (leI (cmpD v.lo u.hi) 0 && leI (cmpD u.lo v.hi) 0))
def hasV(v:Vx)(d:Dx):Bool:=rightV v && (d.fitsB && (leI (cmpD v.lo d) 0 && leI (cmpD d v.hi) 0))
def narrowB(v:Vx)(p:Int):Bool:=leI 0 p && (rightV v && narrowV v p)
theorem lt_not{a b:Int}(h:ltI a b=true):leI b a=false:=by rw [leI_false];have:=ltI_true.1 h;omega
theorem nlt_le{a b:Int}(h:ltI a b=false):leI b a=true:=by rw [leI_true];have:=ltI_false.1 h;omega
def p2(e:Int):Rat:=2^e
theorem p2_pos(e:Int):0<p2 e:=Rat.zpow_pos (by decide)
theorem p2_add(a b:Int):p2 (a+b)=p2 a*p2 b:=Rat.zpow_add (by decide) a b
theorem p2_zero:p2 0=1:=Rat.zpow_zero 2
theorem p2_nat(n:Nat):p2 n=((2^n:Int):Rat):=by
  unfold p2;rw [Rat.zpow_natCast,Rat.intCast_pow];rfl
theorem p2_toNat{n:Int}(h:0≤n):p2 n=((2^n.toNat:Int):Rat):=by
  rw [←p2_nat,Int.toNat_of_nonneg h]
theorem p2_neg(e:Int):p2 (-e)*p2 e=1:=by rw [←p2_add,Int.add_left_neg,p2_zero]
theorem p2_sub(a b:Int):p2 (a-b)*p2 b=p2 a:=by rw [←p2_add];congr 1;omega
def Dx.rv(d:Dx):Rat:=(d.sm:Rat)*p2 d.e
theorem rv_zero{d:Dx}(h:d.m=0):d.rv=0:=by
  unfold Dx.rv Dx.sm;rw [h]
  cases d.neg<;>simp
theorem sgnm(neg:Bool)(a b:Int):(if neg then -(a*b) else a*b)=a*(if neg then -b else b):=by cases neg<;>simp [Int.mul_neg]
theorem rv_mkD{neg:Bool}{m e:Int}(h:0≤m):(mkD neg m e).rv=((if neg then -m else m:Int):Rat)*p2 e:=by
  by_cases h0:m=0
  · subst h0;rw [mkD_zero,rv_zero (by rfl)];cases neg<;>simp
  · obtain ⟨h1,h2⟩:=tz_div (m:=m) (by omega)
    have hm:=mkD_m (neg:=neg) (e:=e) h
    have hn:(mkD neg m e).neg=neg:=by unfold mkD;rw [if_neg h0]
    have he:(mkD neg m e).e=e+(tz m:Int):=by unfold mkD;rw [if_neg h0]
    unfold Dx.rv Dx.sm
    rw [hm,hn,he,p2_add,p2_nat]
    conv=>rhs;rw [h1,sgnm,rcM]
    grind
theorem rv_mkS{s e:Int}:(mkS s e).rv=(s:Rat)*p2 e:=by
  unfold mkS;rw [rv_mkD (by omega)]
  congr 2
  by_cases h:s<0
  · rw [decide_eq_true h];simp only [if_true];omega
  · rw [decide_eq_false h];simp;omega
theorem rv_one{d:Dx}(h:0≤d.m):(oneD d).rv=d.rv:=by unfold oneD;rw [rv_mkD h];rfl
theorem rv_neg{d:Dx}(h:0≤d.m):(negD d).rv = -d.rv:=by
  unfold negD;rw [rv_mkD h];unfold Dx.rv Dx.sm
  cases d.neg<;>simp [Rat.neg_mul]
theorem rv_abs{d:Dx}(h:0≤d.m):(absD d).rv=(d.m:Rat)*p2 d.e:=by
  unfold absD;rw [rv_mkD h];simp
theorem rv_shift{d:Dx}{n:Int}(h:0≤d.m):(shiftD d n).rv=d.rv*p2 n:=by
  unfold shiftD;rw [rv_mkD h,p2_add];unfold Dx.rv Dx.sm;rw [Rat.mul_assoc]
theorem rv_times{a b:Dx}(ha:0≤a.m)(hb:0≤b.m):(timesD a b).rv=a.rv*b.rv:=by
  unfold timesD;rw [rv_mkD (Int.mul_nonneg ha hb),p2_add]
  have e:(if (!(a.neg == b.neg))=true then -(a.m*b.m) else a.m*b.m)=a.sm*b.sm:=by
    unfold Dx.sm;cases a.neg<;>cases b.neg<;>simp [Int.mul_neg,Int.neg_mul]
  rw [e,rcM];unfold Dx.rv;grind
theorem rv_scl{d:Dx}{mn:Int}(h:mn≤d.e):d.rv=(d.scl mn:Rat)*p2 mn:=by
  unfold Dx.rv Dx.scl
  rw [rcM,←p2_toNat (by omega),Rat.mul_assoc,p2_sub]
theorem rv_plusX{x y:Dx}:(plusX x y).rv=x.rv+y.rv:=by
  unfold plusX
  split
  · rename_i h;rw [rv_zero h,Rat.zero_add]
  · split
    · rename_i h;rw [rv_zero h,Rat.add_zero]
    · rw [rv_mkS,rv_scl (d:=x) (mn:=min x.e y.e) (by omega),rv_scl (d:=y) (mn:=min x.e y.e) (by omega),rcA]
      unfold Dx.scl;grind
theorem rv_plus{a b:Dx}(ha:0≤a.m)(hb:0≤b.m):(plusD a b).rv=a.rv+b.rv:=by unfold plusD;rw [rv_plusX,rv_one ha,rv_one hb]
theorem rv_less{a b:Dx}(ha:0≤a.m)(hb:0≤b.m):(lessD a b).rv=a.rv-b.rv:=by unfold lessD;rw [rv_plus ha negD_p,rv_neg hb,Rat.sub_eq_add_neg]
theorem cmpI_cases(a b:Int):(cmpI a b = -1∧a<b)∨(cmpI a b=0∧a=b)∨(cmpI a b=1∧b<a):=by
  unfold cmpI;split
  · left;exact ⟨rfl,by assumption⟩
  · split<;>omega
theorem cmpD_cases(a b:Dx):(cmpD a b = -1∧a.rv<b.rv)∨(cmpD a b=0∧a.rv=b.rv)∨(cmpD a b=1∧b.rv<a.rv):=by
  have ea:=rv_scl (d:=a) (mn:=min a.e b.e) (by omega)
  have eb:=rv_scl (d:=b) (mn:=min a.e b.e) (by omega)
  have p:=p2_pos (min a.e b.e)
  rw [ea,eb]
  unfold cmpD
  rcases cmpI_cases (a.scl (min a.e b.e)) (b.scl (min a.e b.e)) with ⟨h,k⟩|⟨h,k⟩|⟨h,k⟩
  · left;exact ⟨h,(Rat.mul_lt_mul_right p).2 (Rat.intCast_lt_intCast.2 k)⟩
  · right;left;exact ⟨h,by rw [k]⟩
  · right;right;exact ⟨h,(Rat.mul_lt_mul_right p).2 (Rat.intCast_lt_intCast.2 k)⟩
theorem cmpD_le{a b:Dx}:cmpD a b≤0↔a.rv≤b.rv:=by rcases cmpD_cases a b with ⟨h,k⟩|⟨h,k⟩|⟨h,k⟩<;>rw [h]<;>simp<;>grind
theorem cmpD_lt0{a b:Dx}:cmpD a b<0↔a.rv<b.rv:=by rcases cmpD_cases a b with ⟨h,k⟩|⟨h,k⟩|⟨h,k⟩<;>rw [h]<;>simp<;>grind
theorem cmpD_gt0{a b:Dx}:0<cmpD a b↔b.rv<a.rv:=by rcases cmpD_cases a b with ⟨h,k⟩|⟨h,k⟩|⟨h,k⟩<;>rw [h]<;>simp<;>grind
theorem sgn_rv{d:Dx}(h:0≤d.m):(d.sgn=0∧d.rv=0)∨(d.sgn=1∧0<d.rv)∨(d.sgn = -1∧d.rv<0):=by
  have p:=p2_pos d.e
  rcases scl_sgn h d.e with ⟨a,b⟩|⟨a,_,_,b,c⟩|⟨a,_,_,b,c⟩
  · left;refine ⟨a,?_⟩;rw [rv_scl (Int.le_refl _),b];simp
  · right;left;refine ⟨a,?_⟩;rw [rv_scl (Int.le_refl _),b];exact Rat.mul_pos (Rat.intCast_pos.2 c) p
  · right;right;refine ⟨a,?_⟩;rw [rv_scl (Int.le_refl _),b]
    have:0<((d.m*2^(d.e-d.e).toNat:Int):Rat)*p2 d.e:=Rat.mul_pos (Rat.intCast_pos.2 c) p
    rw [Rat.intCast_neg];grind
theorem sgn_less{a b:Dx}(ha:0≤a.m)(hb:0≤b.m):(lessD a b).sgn=cmpD a b:=by
  have:=rv_less ha hb
  rcases sgn_rv (lessD_p (a:=a) (b:=b)) with ⟨h,k⟩|⟨h,k⟩|⟨h,k⟩<;>rcases cmpD_cases a b with ⟨h',k'⟩|⟨h',k'⟩|⟨h',k'⟩<;>rw [h,h']<;>grind
def fForm:Spec:=specK [.b,.w,.i .i64] fun (neg:Bool) (xs:List Int) (e:Int)=>(some (-4611686018427387904≤e∧e≤4611686018427387904),dT (mkD neg (val xs) e))
theorem fForm_vc(neg:Bool)(xs:List Int)(e:Int)(Q:Tv→Prop):execF ⟨tys,sRef3⟩ (fun _=>none) 0 Tryz.f32 [.one (.bool neg),.one (.words false xs),.one (.int .i64 e)] Q=(br (eqI (↑(List.length (ws (val xs))):Int) 0) (Q (Tv.sv (Sv.agg [At.bool false,At.words true [],At.int IntKind.i64 0]))) (((0:Int)≤(↑(tz (val (ws (val xs)))):Int)∧(↑(tz (val (ws (val xs)))):Int)≤9007199254740992)∧inR (e+(↑(tz (val (ws (val xs)))):Int))∧Q (Tv.sv (Sv.agg [At.bool neg,At.words true (ws (val (ws (val xs))/2^Int.toNat (↑(tz (val (ws (val xs)))):Int))),At.int IntKind.i64 (e+(↑(tz (val (ws (val xs)))):Int))])))):=by kernel_rfl
theorem fForm_ok:SpecOk Tryz.prog 32 fForm :=
  specK_ok (envOk tys_ok sRef3_ok) mixed Tryz.func32 rfl (by decide) (by decide) fun neg _ xs hxs (e:Int) _ hp=>⟨fun _=>none,0,by
    have h0:-4611686018427387904≤e:=hp.1
    have h1:e≤4611686018427387904:=hp.2
    have hv:=WfW.val0 hxs
    have ht:=tz_small hxs.1 hxs.2
    refine (fForm_vc neg xs e _).mpr (br_intro (fun h=>?_) (fun h=>?_))
    · rw [len_zero hv,decide_eq_true_eq] at h
      show _=dT (mkD neg (val xs) e)
      rw [h,mkD_zero]
      rfl
    · rw [len_zero hv,decide_eq_false_iff_not] at h
      rw [val_ws hv]
      refine ⟨⟨by omega,by omega⟩,⟨by omega,by omega⟩,?_⟩
      show _=dT (mkD neg (val xs) e)
      rw [mkD,if_neg h,Int.toNat_natCast]
      rfl⟩
def fZero:Spec:=specK [.d] fun (d:Dx)=>(none,bT d.zeroB)
theorem fZero_vc(d:Dx)(Q:Tv→Prop):execF ⟨tys,sRef3⟩ (fun _=>none) 0 Tryz.f41 [.agg (dyL false d)] Q=(Q (Tv.sv (Sv.one (At.bool (eqI (↑(List.length (ws (val d.xs))):Int) 0))))):=by kernel_rfl
theorem fZero_ok:SpecOk Tryz.prog 41 fZero :=
  specK_ok (envOk tys_ok sRef3_ok) mixed Tryz.func41 rfl (by decide) (by decide) fun (d:Dx) hd _=>⟨fun _=>none,0,by
    refine (fZero_vc d _).mpr ?_
    show _=bT d.zeroB
    rw [len_zero (WfW.val0 hd)]
    rfl⟩
def fRight:Spec:=specK [.d] fun (d:Dx)=>(none,bT d.fitsB)
theorem fRight_vc(d:Dx)(Q:Tv→Prop):execF ⟨tys,sRef3⟩ (fun _=>none) 0 Tryz.f36 [.agg (dyL false d)] Q=(br (!greatB (val d.xs)) (br (leI (-32768) d.e) (Q (Tv.sv (Sv.one (At.bool (leI d.e 32768))))) (Q (Tv.sv (Sv.one (At.bool false))))) (Q (Tv.sv (Sv.one (At.bool false))))):=by kernel_rfl
theorem fRight_ok:SpecOk Tryz.prog 36 fRight :=
  specK_ok (envOk tys_ok sRef3_ok) mixed Tryz.func36 rfl (by decide) (by decide) fun (d:Dx) _ _=>⟨fun _=>none,0,by
    show execF _ _ _ _ _ (fun t=>t=bT d.fitsB)
    refine (fRight_vc d _).mpr (br_intro (fun h=>br_intro (fun h'=>?_) fun h'=>?_) fun h=>?_)
    · unfold Dx.fitsB Dx.m;rw [h,show decide (-32768≤d.e)=true from h'];rfl
    · unfold Dx.fitsB Dx.m;rw [h,show decide (-32768≤d.e)=false from h'];rfl
    · unfold Dx.fitsB Dx.m;rw [h];rfl⟩
def fTop:Spec:=specK [.d] fun (d:Dx)=>(some (eB 2305843009213693952 d),iT (d.e+blen d.m-1))
theorem fTop_vc(d:Dx)(Q:Tv→Prop):execF ⟨tys,sRef3⟩ (fun _=>none) 0 Tryz.f62 [.agg (dyL false d)] Q=(inR (d.e+(↑(blen (val d.xs)):Int))∧inR (d.e+(↑(blen (val d.xs)):Int)-1)∧true=true∧Q (Tv.sv (Sv.one (At.int IntKind.i64 (d.e+(↑(blen (val d.xs)):Int)-1))))):=by kernel_rfl
theorem fTop_ok:SpecOk Tryz.prog 62 fTop :=
  specK_ok (envOk tys_ok sRef3_ok) mixed Tryz.func62 rfl (by decide) (by decide) fun (d:Dx) hd hp=>⟨fun _=>none,0,by
    have hb:=blen_wf hd
    have h0:-2305843009213693952≤d.e:=hp.1
    have h1:d.e≤2305843009213693952:=hp.2
    exact (fTop_vc d _).mpr ⟨⟨by omega,by omega⟩,⟨by omega,by omega⟩,rfl,rfl⟩⟩
def sameD(d c:Dx):Bool:=(d.neg == c.neg) && (eqI d.e c.e && decide (d.xs=c.xs))
def fSame:Spec:=specK [.d,.d] fun (d:Dx) (c:Dx)=>(none,bT (sameD d c))
theorem fSame_vc(d c:Dx)(Q:Tv→Prop):execF ⟨tys,sRef3⟩ (fun _=>none) 0 Tryz.f34 [.agg (dyL false d),.agg (dyL false c)] Q=(br (d.neg == c.neg) (br (eqI d.e c.e) (Q (Tv.sv (Sv.one (At.bool (decide (d.xs=c.xs)))))) (Q (Tv.sv (Sv.one (At.bool false))))) (Q (Tv.sv (Sv.one (At.bool false))))):=by kernel_rfl
theorem fSame_ok:SpecOk Tryz.prog 34 fSame :=
  specK_ok (envOk tys_ok sRef3_ok) mixed Tryz.func34 rfl (by decide) (by decide) fun (d:Dx) _ (c:Dx) _ _=>⟨fun _=>none,0,by
    show execF _ _ _ _ _ (fun t=>t=bT (sameD d c))
    refine (fSame_vc d c _).mpr (br_intro (fun h=>br_intro (fun h'=>?_) fun h'=>?_) fun h=>?_)
    · rw [sameD,h,h'];rfl
    · rw [sameD,h,h'];rfl
    · rw [sameD,h];rfl⟩
def sF1:List (FuncId×Spec):=[(32,fForm),(41,fZero),(36,fRight),(62,fTop),(34,fSame)] ++ sRef3
theorem sF1_ok:SpecsOk Tryz.prog sF1:=⟨fForm_ok,fZero_ok,fRight_ok,fTop_ok,fSame_ok,sRef3_ok⟩
def fOne:Spec:=specK [.d] fun (d:Dx)=>(some (eB 4611686018427387904 d),dT (oneD d))
theorem fOne_vc(d:Dx)(Q:Tv→Prop):execF ⟨tys,sF1⟩ (fun _=>none) 0 Tryz.f70 [.agg (dyL false d)] Q=(((-4611686018427387904:Int)≤d.e∧d.e≤4611686018427387904)∧Q (Tv.sv (Sv.agg (dyL true (mkD d.neg (val d.xs) d.e))))):=by kernel_rfl
theorem fOne_ok:SpecOk Tryz.prog 70 fOne :=
  specK_ok (envOk tys_ok sF1_ok) mixed Tryz.func70 rfl (by decide) (by decide) fun (d:Dx) _ hp=>⟨fun _=>none,0,(fOne_vc d _).mpr ⟨hp,rfl⟩⟩
def fNeg:Spec:=specK [.d] fun (d:Dx)=>(some (eB 4611686018427387904 d),dT (negD d))
theorem fNeg_vc(d:Dx)(Q:Tv→Prop):execF ⟨tys,sF1⟩ (fun _=>none) 0 Tryz.f39 [.agg (dyL false d)] Q=(((-4611686018427387904:Int)≤d.e∧d.e≤4611686018427387904)∧Q (Tv.sv (Sv.agg (dyL true (mkD (!d.neg) (val d.xs) d.e))))):=by kernel_rfl
theorem fNeg_ok:SpecOk Tryz.prog 39 fNeg :=
  specK_ok (envOk tys_ok sF1_ok) mixed Tryz.func39 rfl (by decide) (by decide) fun (d:Dx) _ hp=>⟨fun _=>none,0,(fNeg_vc d _).mpr ⟨hp,rfl⟩⟩
def fTwice:Spec:=specK [.d,.i .i64] fun (d:Dx) (n:Int)=>(some (eB 2305843009213693952 d∧-2305843009213693952≤n∧n≤2305843009213693952),dT (shiftD d n))
theorem fTwice_vc(d:Dx)(n:Int)(Q:Tv→Prop):execF ⟨tys,sF1⟩ (fun _=>none) 0 Tryz.f42 [.agg (dyL false d),.one (.int .i64 n)] Q=(inR (d.e+n)∧((-4611686018427387904:Int)≤d.e+n∧d.e+n≤4611686018427387904)∧Q (Tv.sv (Sv.agg (dyL true (mkD d.neg (val d.xs) (d.e+n)))))):=by kernel_rfl
theorem fTwice_ok:SpecOk Tryz.prog 42 fTwice :=
  specK_ok (envOk tys_ok sF1_ok) mixed Tryz.func42 rfl (by decide) (by decide) fun (d:Dx) _ (n:Int) _ hp=>⟨fun _=>none,0,by
    obtain ⟨⟨h1,h2⟩,h3,h4⟩:eB 2305843009213693952 d∧-2305843009213693952≤n∧n≤2305843009213693952:=hp
    exact (fTwice_vc d n _).mpr ⟨⟨by omega,by omega⟩,⟨by omega,by omega⟩,rfl⟩⟩
def fSign:Spec:=specK [.d] fun (d:Dx)=>(none,iT d.sgn)
theorem fSign_vc(d:Dx)(Q:Tv→Prop):execF ⟨tys,sF1⟩ (fun _=>none) 0 Tryz.f38 [.agg (dyL false d)] Q=(br (Dx.zeroB d) (Q (Tv.sv (Sv.one (At.int IntKind.i64 0)))) (br d.neg (Q (Tv.sv (Sv.one (At.int IntKind.i64 (-1))))) (Q (Tv.sv (Sv.one (At.int IntKind.i64 1)))))):=by kernel_rfl
theorem fSign_ok:SpecOk Tryz.prog 38 fSign :=
  specK_ok (envOk tys_ok sF1_ok) mixed Tryz.func38 rfl (by decide) (by decide) fun (d:Dx) _ _=>⟨fun _=>none,0,by
    show execF _ _ _ _ _ (fun t=>t=iT d.sgn)
    refine (fSign_vc d _).mpr (br_intro (fun h=>?_) fun h=>br_intro (fun h'=>?_) fun h'=>?_)
    · rw [Dx.sgn,if_pos (zeroB_true.1 h)]
    · rw [Dx.sgn,if_neg (zeroB_false.1 h),if_pos h']
    · rw [Dx.sgn,if_neg (zeroB_false.1 h),h'];rfl⟩
def fInt:Spec:=specK [.i .i64] fun (n:Int)=>(some (inR n),dT (mkS n 0))
theorem fInt_vc(n:Int)(Q:Tv→Prop):execF ⟨tys,sF1⟩ (fun _=>none) 0 Tryz.f13 [.one (.int .i64 n)] Q=(br (ltI n 0) (Word (IntKind.wrap IntKind.u64 ((0:Int)-IntKind.wrap IntKind.u64 n))∧((-4611686018427387904:Int)≤0∧(0:Int)≤4611686018427387904)∧Q (Tv.sv (Sv.agg (dyL true (mkD true (val (ws (IntKind.wrap IntKind.u64 ((0:Int)-IntKind.wrap IntKind.u64 n)))) 0))))) (Word (IntKind.wrap IntKind.u64 n)∧((-4611686018427387904:Int)≤0∧(0:Int)≤4611686018427387904)∧Q (Tv.sv (Sv.agg (dyL true (mkD false (val (ws (IntKind.wrap IntKind.u64 n))) 0)))))):=by kernel_rfl
theorem fInt_ok:SpecOk Tryz.prog 13 fInt :=
  specK_ok (envOk tys_ok sF1_ok) mixed Tryz.func13 rfl (by decide) (by decide) fun (n:Int) _ hp=>⟨fun _=>none,0,by
    obtain ⟨h1,h2⟩:inR n:=hp
    show execF _ _ _ _ _ (fun t=>t=dT (mkS n 0))
    refine (fInt_vc n _).mpr (br_intro (fun h=>?_) fun h=>?_)
    · have e:IntKind.wrap .u64 (0-IntKind.wrap .u64 n)=(n.natAbs:Int):=by
        rw [ltI_true] at h;rw [IntKind.wrap_u64,IntKind.wrap_u64];omega
      rw [e,val_ws (by omega)]
      refine ⟨⟨by omega,by omega⟩,⟨by omega,by omega⟩,?_⟩
      rw [mkS,decide_eq_true (ltI_true.1 h)]
    · have e:IntKind.wrap .u64 n=(n.natAbs:Int):=by
        rw [ltI_false] at h;rw [IntKind.wrap_u64];omega
      rw [e,val_ws (by omega)]
      refine ⟨⟨by omega,by omega⟩,⟨by omega,by omega⟩,?_⟩
      rw [mkS,decide_eq_false (ltI_false.1 h)]⟩
def sF2:List (FuncId×Spec):=[(70,fOne),(39,fNeg),(42,fTwice),(38,fSign),(13,fInt)] ++ sF1
theorem sF2_ok:SpecsOk Tryz.prog sF2:=⟨fOne_ok,fNeg_ok,fTwice_ok,fSign_ok,fInt_ok,sF1_ok⟩
theorem one_ws{d:Dx}(h:0≤d.m):(oneD d).xs=ws (oneD d).m:=mkD_ws h
theorem one_len{d:Dx}(h:0≤d.m):eqI ((oneD d).xs.length:Nat) 0=decide ((oneD d).m=0):=by rw [one_ws h,len_zero oneD_p]
theorem tz_odd2{m:Int}(h:m % 2=1)(h0:0≤m):tz m=0:=by
  obtain ⟨k,rfl⟩:∃ k,m=2*k+1:=⟨m/2,by omega⟩
  exact tz_odd (by omega)
theorem mkD_mul_pow{neg:Bool}{m e:Int}{k:Nat}(h:0≤m):mkD neg (m*2^k) e=mkD neg m (e+k):=by
  by_cases hz:m=0
  · subst hz;rw [Int.zero_mul,mkD_zero,mkD_zero]
  · have hp:0<m:=by omega
    have p:=two_pow_pos k
    have hq:m*2^k≠0:=by have:=Int.mul_pos hp p;omega
    unfold mkD
    rw [if_neg hq,if_neg hz,tz_mul_pow hp]
    have:m*2^k/2^(tz m+k)=m/2^tz m:=by
      rw [Int.pow_add,Int.mul_ediv_mul_of_pos_left _ _ p]
    rw [this]
    congr 1
    omega
theorem mkD_odd{neg:Bool}{m e:Int}(h:0<m):(mkD neg m e).m % 2=1:=by
  rw [mkD_m (by omega)]
  obtain ⟨k,hk,e⟩:=tz_spec h
  have p:=two_pow_pos (tz m)
  have e2:m/2^tz m=2*k+1:=by
    conv=>lhs;lhs;rw [e]
    exact Int.mul_ediv_cancel_left _ (by omega)
  omega
theorem one_odd{d:Dx}(h:0≤d.m)(h0:(oneD d).m≠0):(oneD d).m % 2=1:=mkD_odd (by
  have:d.m≠0:=fun e=>h0 (by unfold oneD;rw [(mkD_m_zero h).2 e])
  omega)
def fTimes:Spec:=specK [.d,.d] fun (a:Dx) (b:Dx)=>(some (a.Sm 68719476736∧b.Sm 68719476736),dT (timesD a b))
theorem fTimes_vc(a b:Dx)(Q:Tv→Prop):execF ⟨tys,sF2⟩ (fun _=>none) 0 Tryz.f67 [.agg (dyL false a),.agg (dyL false b)] Q=(eB 4611686018427387904 a∧eB 4611686018427387904 b∧true=true∧List.length (ws (val (oneD a).xs))+List.length (ws (val (oneD b).xs))≤17592186044414∧inR ((oneD a).e+(oneD b).e)∧((-4611686018427387904:Int)≤(oneD a).e+(oneD b).e∧(oneD a).e+(oneD b).e≤4611686018427387904)∧true=true∧Q (Tv.sv (Sv.agg (dyL true (mkD (!(oneD a).neg == (oneD b).neg) (val (ws (val (oneD a).xs*val (oneD b).xs))) ((oneD a).e+(oneD b).e)))))):=by kernel_rfl
theorem times_one{a b:Dx}(ha:0≤a.m)(hb:0≤b.m):mkD (!((oneD a).neg == (oneD b).neg)) ((oneD a).m*(oneD b).m) ((oneD a).e+(oneD b).e)=timesD a b:=by
  unfold timesD
  by_cases h1:a.m=0
  · rw [h1,Int.zero_mul,mkD_zero,show (oneD a).m=0 by unfold oneD;exact (mkD_m_zero ha).2 h1,Int.zero_mul,mkD_zero]
  · by_cases h2:b.m=0
    · rw [h2,Int.mul_zero,mkD_zero,show (oneD b).m=0 by unfold oneD;exact (mkD_m_zero hb).2 h2,Int.mul_zero,mkD_zero]
    · obtain ⟨e1,g1⟩:=tz_div (m:=a.m) (by omega)
      obtain ⟨e2,g2⟩:=tz_div (m:=b.m) (by omega)
      have r1:(oneD a).m=a.m/2^tz a.m:=mkD_m ha
      have r2:(oneD b).m=b.m/2^tz b.m:=mkD_m hb
      have n1:(oneD a).neg=a.neg:=by unfold oneD mkD;rw [if_neg h1]
      have n2:(oneD b).neg=b.neg:=by unfold oneD mkD;rw [if_neg h2]
      have x1:(oneD a).e=a.e+(tz a.m:Int):=by unfold oneD mkD;rw [if_neg h1]
      have x2:(oneD b).e=b.e+(tz b.m:Int):=by unfold oneD mkD;rw [if_neg h2]
      rw [n1,n2,r1,r2,x1,x2]
      generalize a.m/2^tz a.m=A at *
      generalize b.m/2^tz b.m=B at *
      generalize tz a.m=i at *
      generalize tz b.m=j at *
      rw [e1,e2]
      have:(2:Int)^i*A*(2^j*B)=A*B*2^(i+j):=by rw [Int.pow_add];simp only [Int.mul_assoc,Int.mul_comm,Int.mul_left_comm]
      rw [this,mkD_mul_pow (Int.mul_nonneg (by omega) (by omega))]
      congr 1
      omega
theorem fTimes_ok:SpecOk Tryz.prog 67 fTimes :=
  specK_ok (envOk tys_ok sF2_ok) mixed Tryz.func67 rfl (by decide) (by decide) fun (a:Dx) ha (b:Dx) hb hp=>⟨fun _=>none,0,by
    obtain ⟨s1,s2⟩:Dx.Sm 68719476736 a∧Dx.Sm 68719476736 b:=hp
    have m1:=Dx.Wf.m0 ha
    have m2:=Dx.Wf.m0 hb
    obtain ⟨z1,z2,z3⟩:=one_sm m1 s1
    obtain ⟨z4,z5,z6⟩:=one_sm m2 s2
    have q1:=oneD_p (d:=a)
    have q2:=oneD_p (d:=b)
    have hM:=Int.mul_nonneg q1 q2
    have l1:=ws_blen (k:=4294967296) q1 (by omega)
    have l2:=ws_blen (k:=4294967296) q2 (by omega)
    refine (fTimes_vc a b _).mpr ⟨s1.eB (by omega),s2.eB (by omega),rfl,?_⟩
    unfold Dx.m at *
    rw [val_ws hM]
    refine ⟨by omega,⟨by omega,by omega⟩,⟨by omega,by omega⟩,rfl,?_⟩
    show _=dT (timesD a b)
    rw [←times_one m1 m2];rfl⟩
def fPlus:Spec:=specK [.d,.d] fun (a:Dx) (b:Dx)=>(some (a.Sm 68719476736∧b.Sm 68719476736),dT (plusD a b))
theorem fPlus_vc(a b:Dx)(Q:Tv→Prop):execF ⟨tys,sF2⟩ (fun _=>none) 0 Tryz.f66 [.agg (dyL false a),.agg (dyL false b)] Q=(eB 4611686018427387904 a∧eB 4611686018427387904 b∧true=true∧br (eqI (↑(List.length (oneD a).xs):Int) 0) (Q (Tv.sv (Sv.agg (dyL true (oneD b))))) (br (eqI (↑(List.length (oneD b).xs):Int) 0) (Q (Tv.sv (Sv.agg (dyL true (oneD a))))) (inR ((oneD a).e-minI (oneD a).e (oneD b).e)∧((0:Int)≤(oneD a).e-minI (oneD a).e (oneD b).e∧(oneD a).e-minI (oneD a).e (oneD b).e≤1099511627776∧List.length (oneD a).xs≤8796093022208)∧inR ((oneD b).e-minI (oneD a).e (oneD b).e)∧((0:Int)≤(oneD b).e-minI (oneD a).e (oneD b).e∧(oneD b).e-minI (oneD a).e (oneD b).e≤1099511627776∧List.length (oneD b).xs≤8796093022208)∧br ((oneD a).neg == (oneD b).neg) ((List.length (ws (val (oneD a).xs*2^Int.toNat ((oneD a).e-minI (oneD a).e (oneD b).e)))≤17592186044414∧List.length (ws (val (oneD b).xs*2^Int.toNat ((oneD b).e-minI (oneD a).e (oneD b).e)))≤17592186044414)∧((-4611686018427387904:Int)≤minI (oneD a).e (oneD b).e∧minI (oneD a).e (oneD b).e≤4611686018427387904)∧true=true∧Q (Tv.sv (Sv.agg (dyL true (mkD (oneD a).neg (val (ws (val (ws (val (oneD a).xs*2^Int.toNat ((oneD a).e-minI (oneD a).e (oneD b).e)))+val (ws (val (oneD b).xs*2^Int.toNat ((oneD b).e-minI (oneD a).e (oneD b).e)))))) (minI (oneD a).e (oneD b).e)))))) (br (leI 0 (cmpI (val (ws (val (oneD a).xs*2^Int.toNat ((oneD a).e-minI (oneD a).e (oneD b).e)))) (val (ws (val (oneD b).xs*2^Int.toNat ((oneD b).e-minI (oneD a).e (oneD b).e)))))) ((val (ws (val (oneD b).xs*2^Int.toNat ((oneD b).e-minI (oneD a).e (oneD b).e)))≤val (ws (val (oneD a).xs*2^Int.toNat ((oneD a).e-minI (oneD a).e (oneD b).e)))∧List.length (ws (val (oneD a).xs*2^Int.toNat ((oneD a).e-minI (oneD a).e (oneD b).e)))≤17592186044414∧List.length (ws (val (oneD b).xs*2^Int.toNat ((oneD b).e-minI (oneD a).e (oneD b).e)))≤17592186044414)∧((-4611686018427387904:Int)≤minI (oneD a).e (oneD b).e∧minI (oneD a).e (oneD b).e≤4611686018427387904)∧true=true∧Q (Tv.sv (Sv.agg (dyL true (mkD (oneD a).neg (val (ws (val (ws (val (oneD a).xs*2^Int.toNat ((oneD a).e-minI (oneD a).e (oneD b).e)))-val (ws (val (oneD b).xs*2^Int.toNat ((oneD b).e-minI (oneD a).e (oneD b).e)))))) (minI (oneD a).e (oneD b).e)))))) ((val (ws (val (oneD a).xs*2^Int.toNat ((oneD a).e-minI (oneD a).e (oneD b).e)))≤val (ws (val (oneD b).xs*2^Int.toNat ((oneD b).e-minI (oneD a).e (oneD b).e)))∧List.length (ws (val (oneD b).xs*2^Int.toNat ((oneD b).e-minI (oneD a).e (oneD b).e)))≤17592186044414∧List.length (ws (val (oneD a).xs*2^Int.toNat ((oneD a).e-minI (oneD a).e (oneD b).e)))≤17592186044414)∧((-4611686018427387904:Int)≤minI (oneD a).e (oneD b).e∧minI (oneD a).e (oneD b).e≤4611686018427387904)∧true=true∧Q (Tv.sv (Sv.agg (dyL true (mkD (oneD b).neg (val (ws (val (ws (val (oneD b).xs*2^Int.toNat ((oneD b).e-minI (oneD a).e (oneD b).e)))-val (ws (val (oneD a).xs*2^Int.toNat ((oneD a).e-minI (oneD a).e (oneD b).e)))))) (minI (oneD a).e (oneD b).e)))))))))):=by kernel_rfl
theorem fPlus_ok:SpecOk Tryz.prog 66 fPlus :=
  specK_ok (envOk tys_ok sF2_ok) mixed Tryz.func66 rfl (by decide) (by decide) fun (a:Dx) ha (b:Dx) hb hp=>⟨fun _=>none,0,by
    obtain ⟨s1,s2⟩:Dx.Sm 68719476736 a∧Dx.Sm 68719476736 b:=hp
    have m1:=Dx.Wf.m0 ha
    have m2:=Dx.Wf.m0 hb
    have q1:=oneD_p (d:=a)
    have q2:=oneD_p (d:=b)
    have z1:=one_sm m1 s1
    have z2:=one_sm m2 s2
    show execF _ _ _ _ _ (fun t=>t=dT (plusX (oneD a) (oneD b)))
    refine (fPlus_vc a b _).mpr ⟨s1.eB (by omega),s2.eB (by omega),rfl,?_⟩
    rw [one_len m1,one_len m2]
    refine br_intro (fun h=>?_) (fun h=>br_intro (fun h'=>?_) fun h'=>?_)
    · rw [plusX,if_pos (of_decide_eq_true h)]
    · rw [plusX,if_neg (of_decide_eq_false h),if_pos (of_decide_eq_true h')]
    · have h:=of_decide_eq_false h
      have h':=of_decide_eq_false h'
      obtain ⟨X,Y,mn,hX,hY,hmn,pX,pY,lX,lY,mn0,mn1,hsame,hge,hlt⟩:=plus_parts q1 q2 h h' z1 z2
      have w1:(oneD a).xs.length≤8796093022208:=by rw [one_ws m1];exact ws_blen q1 (by have:=z1.1;omega)
      have w2:(oneD b).xs.length≤8796093022208:=by rw [one_ws m2];exact ws_blen q2 (by have:=z2.1;omega)
      have b1:=z1.2
      have b2:=z2.2
      unfold Dx.m at hX hY
      rw [minI_eq,hX,hY,hmn,val_ws (n:=X) (by omega),val_ws (n:=Y) (by omega)]
      refine ⟨⟨by omega,by omega⟩,⟨by omega,by omega,w1⟩,⟨by omega,by omega⟩,⟨by omega,by omega,w2⟩,br_intro (fun e=>?_) fun e=>br_intro (fun e'=>?_) fun e'=>?_⟩
      · rw [val_ws (by omega)]
        refine ⟨⟨lX,lY⟩,⟨mn0,mn1⟩,rfl,?_⟩
        rw [hsame (by simpa using e)]
      · rw [cmpI_ge] at e'
        rw [val_ws (n:=X-Y) (by omega)]
        refine ⟨⟨e',lX,lY⟩,⟨mn0,mn1⟩,rfl,?_⟩
        rw [hge (by simpa using e) e']
      · have e':¬ Y≤X:=fun h=>by rw [cmpI_ge.2 h] at e';simp at e'
        rw [val_ws (n:=Y-X) (by omega)]
        refine ⟨⟨by omega,lY,lX⟩,⟨mn0,mn1⟩,rfl,?_⟩
        rw [hlt (by simpa using e) (by omega)]⟩
def fTrim:Spec:=specK [.d,.i .i64,.b] fun (d:Dx) (p:Int) (up:Bool)=>(some (d.Sm 34359738368∧0≤p∧p≤1099511627776),dT (cutD d p up))
theorem fTrim_vc(d:Dx)(p:Int)(up:Bool)(Q:Tv→Prop):execF ⟨tys,sF2⟩ (fun _=>none) 0 Tryz.f108 [.agg (dyL false d),.one (.int .i64 p),.one (.bool up)] Q=(eB 4611686018427387904 d∧br (leI (↑(blen (val (oneD d).xs)):Int) p) (Q (Tv.sv (Sv.agg (dyL true (oneD d))))) (inR ((↑(blen (val (oneD d).xs)):Int)-p)∧((0:Int)≤(↑(blen (val (oneD d).xs)):Int)-p∧(↑(blen (val (oneD d).xs)):Int)-p≤9007199254740992)∧br (lostB (val (oneD d).xs) (Int.toNat ((↑(blen (val (oneD d).xs)):Int)-p))) (br (!up == (oneD d).neg) (Word 1∧(List.length (ws (val (oneD d).xs/2^Int.toNat ((↑(blen (val (oneD d).xs)):Int)-p)))≤17592186044414∧List.length (ws 1)≤17592186044414)∧inR ((oneD d).e+(↑(blen (val (oneD d).xs)):Int))∧inR ((oneD d).e+(↑(blen (val (oneD d).xs)):Int)-p)∧((-4611686018427387904:Int)≤(oneD d).e+(↑(blen (val (oneD d).xs)):Int)-p∧(oneD d).e+(↑(blen (val (oneD d).xs)):Int)-p≤4611686018427387904)∧Q (Tv.sv (Sv.agg (dyL true (mkD (oneD d).neg (val (ws (val (ws (val (oneD d).xs/2^Int.toNat ((↑(blen (val (oneD d).xs)):Int)-p)))+val (ws 1)))) ((oneD d).e+(↑(blen (val (oneD d).xs)):Int)-p)))))) (inR ((oneD d).e+(↑(blen (val (oneD d).xs)):Int))∧inR ((oneD d).e+(↑(blen (val (oneD d).xs)):Int)-p)∧((-4611686018427387904:Int)≤(oneD d).e+(↑(blen (val (oneD d).xs)):Int)-p∧(oneD d).e+(↑(blen (val (oneD d).xs)):Int)-p≤4611686018427387904)∧Q (Tv.sv (Sv.agg (dyL true (mkD (oneD d).neg (val (ws (val (oneD d).xs/2^Int.toNat ((↑(blen (val (oneD d).xs)):Int)-p)))) ((oneD d).e+(↑(blen (val (oneD d).xs)):Int)-p))))))) (inR ((oneD d).e+(↑(blen (val (oneD d).xs)):Int))∧inR ((oneD d).e+(↑(blen (val (oneD d).xs)):Int)-p)∧((-4611686018427387904:Int)≤(oneD d).e+(↑(blen (val (oneD d).xs)):Int)-p∧(oneD d).e+(↑(blen (val (oneD d).xs)):Int)-p≤4611686018427387904)∧Q (Tv.sv (Sv.agg (dyL true (mkD (oneD d).neg (val (ws (val (oneD d).xs/2^Int.toNat ((↑(blen (val (oneD d).xs)):Int)-p)))) ((oneD d).e+(↑(blen (val (oneD d).xs)):Int)-p)))))))):=by kernel_rfl
theorem fTrim_ok:SpecOk Tryz.prog 108 fTrim :=
  specK_ok (envOk tys_ok sF2_ok) mixed Tryz.func108 rfl (by decide) (by decide) fun (d:Dx) hd (p:Int) _ (up:Bool) _ hp=>⟨fun _=>none,0,by
    obtain ⟨s1,p0,p1⟩:Dx.Sm 34359738368 d∧0≤p∧p≤1099511627776:=hp
    have m0:=Dx.Wf.m0 hd
    have m1:=oneD_p (d:=d)
    have hodd:=one_odd m0
    obtain ⟨z1,z2,z3⟩:=one_sm m0 s1
    show execF _ _ _ _ _ (fun t=>t=dT (cutX (oneD d) p up))
    refine (fTrim_vc d p up _).mpr ⟨s1.eB (by omega),?_⟩
    generalize oneD d=x at *
    unfold cutX
    unfold Dx.m at m1 z1 hodd ⊢
    refine br_intro (fun h=>?_) fun h=>?_
    · rw [if_pos (by have:=leI_true.1 h;omega)]
    · have h:=leI_false.1 h
      rw [if_neg (by omega)]
      obtain ⟨n,hn⟩:∃ n:Int,(blen (val x.xs):Int)-p=n:=⟨_,rfl⟩
      rw [hn]
      have hmp:0<val x.xs:=by
        by_cases hz:val x.xs=0
        · rw [hz] at h;have e0:blen 0=0:=by simp [blen]
          rw [e0] at h;omega
        · omega
      have hq:0≤val x.xs/2^n.toNat:=Int.ediv_nonneg m1 (by have:=two_pow_pos n.toNat;omega)
      have hql:(ws (val x.xs/2^n.toNat)).length≤1073741825:=ws_blen hq (by
        have:=blen_mono (m:=val x.xs/2^n.toNat) (n:=val x.xs) (Int.ediv_le_self _ m1);omega)
      have hl:lostB (val x.xs) n.toNat=true:=by rw [lostB_tz hmp,tz_odd2 (hodd (by omega)) m1];simp;omega
      have hb:blen (val x.xs)≤68719476736:=by omega
      refine ⟨⟨by omega,by omega⟩,⟨by omega,by omega⟩,br_intro (fun _=>br_intro (fun h'=>?_) fun h'=>?_) fun hf=>by rw [hl] at hf;simp at hf⟩
      · rw [val_ws hq,val_ws_one,val_ws (by omega)]
        refine ⟨word_one,⟨by omega,by simp [ws_one]⟩,⟨by omega,by omega⟩,⟨by omega,by omega⟩,⟨by omega,by omega⟩,?_⟩
        rw [if_neg (by cases up<;>cases hh:x.neg<;>simp_all),show x.e+(blen (val x.xs):Int)-p=x.e+n by omega]
      · rw [val_ws hq]
        refine ⟨⟨by omega,by omega⟩,⟨by omega,by omega⟩,⟨by omega,by omega⟩,?_⟩
        rw [if_pos (by cases up<;>cases hh:x.neg<;>simp_all),Int.add_zero,show x.e+(blen (val x.xs):Int)-p=x.e+n by omega]⟩
def sF3:List (FuncId×Spec):=[(67,fTimes),(66,fPlus),(108,fTrim)] ++ sF2
theorem sF3_ok:SpecsOk Tryz.prog sF3:=⟨fTimes_ok,fPlus_ok,fTrim_ok,sF2_ok⟩
def fLess:Spec:=specK [.d,.d] fun (a:Dx) (b:Dx)=>(some (a.Sm 34359738368∧b.Sm 34359738368),dT (lessD a b))
theorem fLess_vc(a b:Dx)(Q:Tv→Prop):execF ⟨tys,sF3⟩ (fun _=>none) 0 Tryz.f40 [.agg (dyL false a),.agg (dyL false b)] Q=(eB 4611686018427387904 b∧(Dx.Sm 68719476736 a∧Dx.Sm 68719476736 (negD b))∧true=true∧Q (Tv.sv (Sv.agg (dyL true (plusD a (negD b)))))):=by kernel_rfl
theorem fLess_ok:SpecOk Tryz.prog 40 fLess :=
  specK_ok (envOk tys_ok sF3_ok) mixed Tryz.func40 rfl (by decide) (by decide) fun (a:Dx) ha (b:Dx) hb hp=>⟨fun _=>none,0,by
    obtain ⟨s1,s2⟩:Dx.Sm 34359738368 a∧Dx.Sm 34359738368 b:=hp
    exact (fLess_vc a b _).mpr ⟨s2.eB (by omega),⟨s1.mono (by omega),(negD_sm s2 (Dx.Wf.m0 hb)).mono (by omega)⟩,rfl,rfl⟩⟩
def sF4:List (FuncId×Spec):=[(40,fLess)] ++ sF3
theorem sF4_ok:SpecsOk Tryz.prog sF4:=⟨fLess_ok,sF3_ok⟩
def fOrder:Spec:=specK [.d,.d] fun (a:Dx) (b:Dx)=>(some (a.Sm 34359738368∧b.Sm 34359738368),iT (cmpD a b))
theorem fOrder_vc(a b:Dx)(Q:Tv→Prop):execF ⟨tys,sF4⟩ (fun _=>none) 0 Tryz.f37 [.agg (dyL false a),.agg (dyL false b)] Q=(true=true∧br (ltI (Dx.sgn a) (Dx.sgn b)) (Q (Tv.sv (Sv.one (At.int IntKind.i64 (-1))))) (br (ltI (Dx.sgn b) (Dx.sgn a)) (Q (Tv.sv (Sv.one (At.int IntKind.i64 1)))) (br (eqI (Dx.sgn a) 0) (Q (Tv.sv (Sv.one (At.int IntKind.i64 0)))) (eB 2305843009213693952 a∧eB 2305843009213693952 b∧true=true∧br (neI (a.e+(↑(blen (Dx.m a)):Int)-1) (b.e+(↑(blen (Dx.m b)):Int)-1)) (br (ltI (b.e+(↑(blen (Dx.m b)):Int)-1) (a.e+(↑(blen (Dx.m a)):Int)-1)) (Q (Tv.sv (Sv.one (At.int IntKind.i64 (Dx.sgn a))))) (inR ((0:Int)-Dx.sgn a)∧Q (Tv.sv (Sv.one (At.int IntKind.i64 ((0:Int)-Dx.sgn a)))))) ((Dx.Sm 34359738368 a∧Dx.Sm 34359738368 b)∧Q (Tv.sv (Sv.one (At.int IntKind.i64 (Dx.sgn (lessD a b)))))))))):=by kernel_rfl
theorem fOrder_ok:SpecOk Tryz.prog 37 fOrder :=
  specK_ok (envOk tys_ok sF4_ok) mixed Tryz.func37 rfl (by decide) (by decide) fun (a:Dx) ha (b:Dx) hb hp=>⟨fun _=>none,0,by
    obtain ⟨s1,s2⟩:Dx.Sm 34359738368 a∧Dx.Sm 34359738368 b:=hp
    have m1:=Dx.Wf.m0 ha
    have m2:=Dx.Wf.m0 hb
    have c1:=sgn_cases (d:=a)
    show execF _ _ _ _ _ (fun t=>t=iT (cmpD a b))
    refine (fOrder_vc a b _).mpr ⟨rfl,br_intro (fun h=>?_) fun h=>br_intro (fun h'=>?_) fun h'=>br_intro (fun h0=>?_) fun h0=>?_⟩
    · rw [cmpD_lt m1 m2 (ltI_true.1 h)]
    · rw [cmpD_gt m1 m2 (ltI_true.1 h')]
    · rw [ltI_false] at h h';rw [eqI_true] at h0
      rw [cmpD_zero m1 m2 h0 (by omega)]
    · rw [ltI_false] at h h';rw [eqI_false] at h0
      have hs:a.sgn=b.sgn:=by omega
      obtain ⟨t1,t2⟩:=cmpD_top m1 m2 hs h0
      refine ⟨s1.eB (by omega),s2.eB (by omega),rfl,br_intro (fun e=>br_intro (fun e'=>?_) fun e'=>?_) fun e=>?_⟩
      · rw [t2 (ltI_true.1 e')]
      · rw [ltI_false] at e';rw [neI_true] at e
        refine ⟨⟨by omega,by omega⟩,?_⟩
        rw [t1 (by omega),Int.zero_sub]
      · exact ⟨⟨s1,s2⟩,by rw [sgn_less m1 m2]⟩⟩
def sF5:List (FuncId×Spec):=[(37,fOrder)] ++ sF4
theorem sF5_ok:SpecsOk Tryz.prog sF5:=⟨fOrder_ok,sF4_ok⟩
def sRef4:List (FuncId×Spec):=[] ++ sF5
theorem sRef4_ok:SpecsOk Tryz.prog sRef4:=sF5_ok
theorem p2_le{a b:Int}(h:a≤b):p2 a≤p2 b:=by
  have e:p2 b=p2 a*p2 (b-a):=by rw [←p2_add];congr 1;omega
  have h1:(1:Rat)≤p2 (b-a):=by
    rw [p2_toNat (by omega)]
    have:=two_pow_pos (b-a).toNat
    exact (Rat.intCast_le_intCast (a:=1)).2 (by omega)
  have:=rmL h1 (rlL (p2_pos a))
  rw [e];grind
theorem p2_one:p2 1=2:=by decide
theorem p2_lt{a b:Int}(h:a<b):p2 a<p2 b:=by
  have h1:=p2_le (a:=a+1) (b:=b) (by omega)
  rw [p2_add,p2_one] at h1
  have:=p2_pos a
  grind
theorem p2_lt_iff{a b:Int}:p2 a<p2 b↔a<b:=by
  refine ⟨fun h=>?_,p2_lt⟩
  by_cases k:a<b
  · exact k
  · have:=p2_le (a:=b) (b:=a) (by omega);grind
theorem amt_ge{m e:Int}(h:0<m):p2 (e+(blen m:Int)-1)≤(m:Rat)*p2 e:=by
  have h1:=blen_ge h
  have h2:=blen_pos h
  have e1:e+(blen m:Int)-1=((blen m-1:Nat):Int)+e:=by omega
  rw [e1,p2_add,p2_nat]
  exact rmR (Rat.intCast_le_intCast.2 h1) (rlL (p2_pos e))
theorem amt_lt{m e:Int}:(m:Rat)*p2 e<p2 (e+(blen m:Int)):=by
  have h1:=blen_lt m
  rw [Int.add_comm,p2_add,p2_nat]
  exact (Rat.mul_lt_mul_right (p2_pos e)).2 (Rat.intCast_lt_intCast.2 h1)
theorem rv_amt{d:Dx}(h:0≤d.m):(0≤d.rv→d.rv=(d.m:Rat)*p2 d.e)∧(d.rv≤0→-d.rv=(d.m:Rat)*p2 d.e):=by
  have p:=p2_pos d.e
  have q:0≤(d.m:Rat)*p2 d.e:=rmN (Rat.intCast_nonneg.2 h) (rlL p)
  unfold Dx.rv Dx.sm
  cases d.neg with
  | false=>simp only [Bool.false_eq_true,if_false];grind
  | true=>simp only [if_true,Rat.intCast_neg];grind
def Mul2(K:Int)(x:Rat):Prop:=∃ s:Int,x=(s:Rat)*p2 K
theorem rv_mul2{d:Dx}{K:Int}(h:K≤d.e):Mul2 K d.rv:=⟨_,rv_scl h⟩
theorem Mul2.sub{K:Int}{x y:Rat}:Mul2 K x→Mul2 K y→Mul2 K (x-y)
  | ⟨s,hs⟩,⟨t,ht⟩=>⟨s-t,by rw [hs,ht,Rat.intCast_sub];grind⟩
theorem Mul2.pos{K:Int}{x:Rat}(h:Mul2 K x)(hx:0<x):p2 K≤x:=by
  obtain ⟨s,rfl⟩:=h
  have p:=p2_pos K
  have hs:0<s:=by
    by_cases hs:0<s
    · exact hs
    · have:(s:Rat)≤0:=Rat.intCast_nonpos.2 (by omega)
      have:=rmR this (rlL p)
      grind
  have:((1:Int):Rat)≤(s:Rat):=Rat.intCast_le_intCast.2 (by omega)
  have:=rmR this (rlL p)
  have e1:((1:Int):Rat)=1:=rfl
  rw [e1] at this
  grind
theorem fits_e{d:Dx}(h:d.fitsB=true):-32768≤d.e∧d.e≤32768:=by
  unfold Dx.fitsB at h;simp at h;omega
theorem fits_lt{d:Dx}(h:d.fitsB=true):(d.m:Rat)*p2 d.e<p2 98304:=by
  have h1:=fits_e h
  have h2:=(fits_sm h).1
  have:=amt_lt (m:=d.m) (e:=d.e)
  have:=p2_le (a:=d.e+(blen d.m:Int)) (b:=98304) (by omega)
  grind
theorem sgn_zero2{d:Dx}:d.sgn=0↔d.m=0:=by
  unfold Dx.sgn;split
  · simp_all
  · split<;>simp_all
theorem zeroB_rv{d:Dx}(h:0≤d.m):d.zeroB=true↔d.rv=0:=by
  rw [zeroB_true,←sgn_zero2]
  rcases sgn_rv h with ⟨a,b⟩|⟨a,b⟩|⟨a,b⟩<;>rw [a]<;>simp<;>grind
theorem cmp_shift{w l:Dx}{p:Int}(hw:0≤w.m):cmpD (shiftD w p) l≤0↔w.rv*p2 p≤l.rv:=by
  rw [cmpD_le,rv_shift hw]
theorem narrow_p{w l:Rat}{p:Int}(hw:p2 (-32768)≤w)(hl:l<p2 98304)(h:w*p2 p≤l):p<131072:=by
  have h1:=rmR hw (rlL (p2_pos p))
  rw [←p2_add] at h1
  have:=(p2_lt_iff (a:=-32768+p) (b:=98304)).1 (by grind)
  omega
theorem narrowX_eq{w l:Dx}{p:Int}(w0:0≤w.m)(l0:0≤l.m)(hw:p2 (-32768)≤w.rv)(hl:l.rv<p2 98304):narrowX w l p=decide (w.rv*p2 p≤l.rv):=by
  unfold narrowX
  by_cases h:w.rv*p2 p≤l.rv
  · have hp:=narrow_p hw hl h
    rw [decide_eq_true (cmp_shift w0 |>.2 h),decide_eq_true h,decide_eq_true (show p≤1048576 by omega)]
    have wp:0<w.rv:=by have:=p2_pos (-32768);grind
    have lp:0<l.rv:=by have:=Rat.mul_pos wp (p2_pos p);grind
    have wm:0<w.m:=by
      by_cases hz:w.m=0
      · rw [rv_zero hz] at wp;grind
      · omega
    have a1:=amt_ge (e:=w.e) wm
    have a2:=amt_lt (m:=l.m) (e:=l.e)
    rw [←(rv_amt w0).1 (by grind)] at a1
    rw [←(rv_amt l0).1 (by grind)] at a2
    have a3:=rmR a1 (rlL (p2_pos p))
    rw [←p2_add] at a3
    have:=(p2_lt_iff (a:=w.e+(blen w.m:Int)-1+p) (b:=l.e+(blen l.m:Int))).1 (by grind)
    rw [decide_eq_true (show w.e+(blen w.m:Int)-1+p≤l.e+(blen l.m:Int)-1+1 by omega)]
    rfl
  · rw [decide_eq_false h,decide_eq_false (fun k=>h ((cmp_shift w0).1 k)),Bool.and_false,Bool.and_false]
def gRight:Spec:=specK [.v] fun (v:Vx)=>(none,bT (rightV v))
theorem gRight_vc(v:Vx)(Q:Tv→Prop):execF ⟨tys2,sRef4⟩ (fun _=>none) 0 Tryz.f35 [.agg (ivL false v)] Q=(br (Dx.fitsB v.lo) (br (Dx.fitsB v.hi) ((Dx.Sm 34359738368 v.lo∧Dx.Sm 34359738368 v.hi)∧Q (Tv.sv (Sv.one (At.bool (leI (cmpD v.lo v.hi) 0))))) (Q (Tv.sv (Sv.one (At.bool false))))) (Q (Tv.sv (Sv.one (At.bool false))))):=by kernel_rfl
theorem gRight_ok:SpecOk Tryz.prog 35 gRight :=
  specK_ok (envOk tys2_ok sRef4_ok) mixed Tryz.func35 rfl (by decide) (by decide) fun (v:Vx) _ _=>⟨fun _=>none,0,by
    refine (gRight_vc v _).mpr (br_intro (fun h1=>br_intro (fun h2=>⟨⟨(fits_sm h1).mono (by omega),(fits_sm h2).mono (by omega)⟩,?_⟩) fun h2=>?_) fun h1=>?_)
    · show _=bT (rightV v);rw [rightV,h1,h2];rfl
    · show _=bT (rightV v);rw [rightV,h1,h2];rfl
    · show _=bT (rightV v);rw [rightV,h1];rfl⟩
def gPoint:Spec:=specK [.d] fun (d:Dx)=>(some (eB 4611686018427387904 d),vT (pointV d))
theorem gPoint_vc(d:Dx)(Q:Tv→Prop):execF ⟨tys2,sRef4⟩ (fun _=>none) 0 Tryz.f44 [.agg (dyL false d)] Q=(eB 4611686018427387904 d∧Q (Tv.sv (Sv.agg (ivL true (Vx.mk (oneD d) (oneD d)))))):=by kernel_rfl
theorem gPoint_ok:SpecOk Tryz.prog 44 gPoint :=
  specK_ok (envOk tys2_ok sRef4_ok) mixed Tryz.func44 rfl (by decide) (by decide) fun (d:Dx) _ hp=>⟨fun _=>none,0,(gPoint_vc d _).mpr ⟨hp,rfl⟩⟩
def gTrim:Spec:=specK [.v,.i .i64] fun (v:Vx) (p:Int)=>(some (v.Sm 34359738368∧0≤p∧p≤1099511627776),vT (trimV v p))
theorem gTrim_vc(v:Vx)(p:Int)(Q:Tv→Prop):execF ⟨tys2,sRef4⟩ (fun _=>none) 0 Tryz.f68 [.agg (ivL false v),.one (.int .i64 p)] Q=((Dx.Sm 34359738368 v.lo∧(0:Int)≤p∧p≤1099511627776)∧(Dx.Sm 34359738368 v.hi∧(0:Int)≤p∧p≤1099511627776)∧true=true∧Q (Tv.sv (Sv.agg (ivL true (Vx.mk (cutD v.lo p false) (cutD v.hi p true)))))):=by kernel_rfl
theorem gTrim_ok:SpecOk Tryz.prog 68 gTrim :=
  specK_ok (envOk tys2_ok sRef4_ok) mixed Tryz.func68 rfl (by decide) (by decide) fun (v:Vx) _ (p:Int) _ hp=>⟨fun _=>none,0,(gTrim_vc v p _).mpr ⟨⟨hp.1.1,hp.2⟩,⟨hp.1.2,hp.2⟩,rfl,rfl⟩⟩
def sameV(v u:Vx):Bool:=sameD v.lo u.lo && sameD v.hi u.hi
def gSame:Spec:=specK [.v,.v] fun (v:Vx) (u:Vx)=>(none,bT (sameV v u))
theorem gSame_vc(v u:Vx)(Q:Tv→Prop):execF ⟨tys2,sRef4⟩ (fun _=>none) 0 Tryz.f14 [.agg (ivL false v),.agg (ivL false u)] Q=(br (sameD v.lo u.lo) (Q (Tv.sv (Sv.one (At.bool (sameD v.hi u.hi))))) (Q (Tv.sv (Sv.one (At.bool false))))):=by kernel_rfl
theorem gSame_ok:SpecOk Tryz.prog 14 gSame :=
  specK_ok (envOk tys2_ok sRef4_ok) mixed Tryz.func14 rfl (by decide) (by decide) fun (v:Vx) _ (u:Vx) _ _=>⟨fun _=>none,0,by
    show execF _ _ _ _ _ (fun t=>t=bT (sameV v u))
    refine (gSame_vc v u _).mpr (br_intro (fun h=>?_) fun h=>?_)<;>rw [sameV,h]<;>rfl⟩
def sG1:List (FuncId×Spec):=[(35,gRight),(44,gPoint),(68,gTrim),(14,gSame)] ++ sRef4
theorem sG1_ok:SpecsOk Tryz.prog sG1:=⟨gRight_ok,gPoint_ok,gTrim_ok,gSame_ok,sRef4_ok⟩
def gMeets:Spec:=specK [.v,.v] fun (v:Vx) (u:Vx)=>(none,bT (meetsV v u))
theorem gMeets_vc(v u:Vx)(Q:Tv→Prop):execF ⟨tys2,sG1⟩ (fun _=>none) 0 Tryz.f17 [.agg (ivL false v),.agg (ivL false u)] Q=(br (rightV v) (br (rightV u) ((Dx.Sm 34359738368 v.lo∧Dx.Sm 34359738368 u.hi)∧br (leI (cmpD v.lo u.hi) 0) ((Dx.Sm 34359738368 u.lo∧Dx.Sm 34359738368 v.hi)∧Q (Tv.sv (Sv.one (At.bool (leI (cmpD u.lo v.hi) 0))))) (Q (Tv.sv (Sv.one (At.bool false))))) (Q (Tv.sv (Sv.one (At.bool false))))) (Q (Tv.sv (Sv.one (At.bool false))))):=by kernel_rfl
theorem gMeets_ok:SpecOk Tryz.prog 17 gMeets :=
  specK_ok (envOk tys2_ok sG1_ok) mixed Tryz.func17 rfl (by decide) (by decide) fun (v:Vx) _ (u:Vx) _ _=>⟨fun _=>none,0,by
    show execF _ _ _ _ _ (fun t=>t=bT (meetsV v u))
    refine (gMeets_vc v u _).mpr (br_intro (fun h1=>br_intro (fun h2=>?_) fun h2=>?_) fun h1=>?_)
    · have z1:=right_sm h1
      have z2:=right_sm h2
      refine ⟨⟨z1.1.mono (by omega),z2.2.mono (by omega)⟩,br_intro (fun h3=>⟨⟨z2.1.mono (by omega),z1.2.mono (by omega)⟩,?_⟩) fun h3=>?_⟩
      · rw [meetsV,h1,h2,h3];rfl
      · rw [meetsV,h1,h2,h3];rfl
    · rw [meetsV,h1,h2];rfl
    · rw [meetsV,h1];rfl⟩
def gHas:Spec:=specK [.v,.d] fun (v:Vx) (d:Dx)=>(none,bT (hasV v d))
theorem gHas_vc(v:Vx)(d:Dx)(Q:Tv→Prop):execF ⟨tys2,sG1⟩ (fun _=>none) 0 Tryz.f15 [.agg (ivL false v),.agg (dyL false d)] Q=(br (rightV v) (br (Dx.fitsB d) ((Dx.Sm 34359738368 v.lo∧Dx.Sm 34359738368 d)∧br (leI (cmpD v.lo d) 0) ((Dx.Sm 34359738368 d∧Dx.Sm 34359738368 v.hi)∧Q (Tv.sv (Sv.one (At.bool (leI (cmpD d v.hi) 0))))) (Q (Tv.sv (Sv.one (At.bool false))))) (Q (Tv.sv (Sv.one (At.bool false))))) (Q (Tv.sv (Sv.one (At.bool false))))):=by kernel_rfl
theorem gHas_ok:SpecOk Tryz.prog 15 gHas :=
  specK_ok (envOk tys2_ok sG1_ok) mixed Tryz.func15 rfl (by decide) (by decide) fun (v:Vx) _ (d:Dx) _ _=>⟨fun _=>none,0,by
    show execF _ _ _ _ _ (fun t=>t=bT (hasV v d))
    refine (gHas_vc v d _).mpr (br_intro (fun h1=>br_intro (fun h2=>?_) fun h2=>?_) fun h1=>?_)
    · have z1:=right_sm h1
      have z2:=fits_sm h2
      refine ⟨⟨z1.1.mono (by omega),z2.mono (by omega)⟩,br_intro (fun h3=>⟨⟨z2.mono (by omega),z1.2.mono (by omega)⟩,?_⟩) fun h3=>?_⟩
      · rw [hasV,h1,h2,h3];rfl
      · rw [hasV,h1,h2,h3];rfl
    · rw [hasV,h1,h2];rfl
    · rw [hasV,h1];rfl⟩
theorem right_le{v:Vx}(h:rightV v=true):v.lo.rv≤v.hi.rv:=cmpD_le.1 (right_fits h).2.2
def gNarrow:Spec:=specK [.v,.i .i64] fun (v:Vx) (p:Int)=>(none,bT (narrowB v p))
theorem gNarrow_vc(v:Vx)(p:Int)(Q:Tv→Prop):execF ⟨tys2,sG1⟩ (fun _=>none) 0 Tryz.f16 [.agg (ivL false v),.one (.int .i64 p)] Q=(br (!rightV v) (Q (Tv.sv (Sv.one (At.bool false)))) (br (ltI p 0) (Q (Tv.sv (Sv.one (At.bool false)))) (true=true∧br (neI (Dx.sgn v.lo) (Dx.sgn v.hi)) (Q (Tv.sv (Sv.one (At.bool (eqI (Dx.sgn v.lo) (Dx.sgn v.hi)))))) (br (eqI (Dx.sgn v.lo) 0) (Q (Tv.sv (Sv.one (At.bool (eqI (Dx.sgn v.lo) (Dx.sgn v.hi)))))) (br (ltI (Dx.sgn v.lo) 0) (eB 4611686018427387904 v.hi∧(Dx.Sm 34359738368 v.hi∧Dx.Sm 34359738368 v.lo)∧br (Dx.zeroB (lessD v.hi v.lo)) (Q (Tv.sv (Sv.one (At.bool true)))) (br (ltI 196608 p) (Q (Tv.sv (Sv.one (At.bool false)))) ((eB 2305843009213693952 (lessD v.hi v.lo)∧(-2305843009213693952:Int)≤p∧p≤2305843009213693952)∧(Dx.Sm 34359738368 (shiftD (lessD v.hi v.lo) p)∧Dx.Sm 34359738368 (negD v.hi))∧true=true∧Q (Tv.sv (Sv.one (At.bool (leI (cmpD (shiftD (lessD v.hi v.lo) p) (negD v.hi)) 0))))))) ((Dx.Sm 34359738368 v.hi∧Dx.Sm 34359738368 v.lo)∧br (Dx.zeroB (lessD v.hi v.lo)) (Q (Tv.sv (Sv.one (At.bool true)))) (br (ltI 196608 p) (Q (Tv.sv (Sv.one (At.bool false)))) ((eB 2305843009213693952 (lessD v.hi v.lo)∧(-2305843009213693952:Int)≤p∧p≤2305843009213693952)∧(Dx.Sm 34359738368 (shiftD (lessD v.hi v.lo) p)∧Dx.Sm 34359738368 v.lo)∧true=true∧Q (Tv.sv (Sv.one (At.bool (leI (cmpD (shiftD (lessD v.hi v.lo) p) v.lo) 0)))))))))))):=by kernel_rfl
theorem wide_ge{v:Vx}(hv:v.P)(hr:rightV v=true)(hz:(lessD v.hi v.lo).zeroB=false):p2 (-32768)≤(lessD v.hi v.lo).rv:=by
  have h:=rv_less hv.2 hv.1
  have f:=right_fits hr
  have hm:=(rv_mul2 (fits_e f.2.1).1).sub (rv_mul2 (fits_e f.1).1)
  rw [←h] at hm
  refine hm.pos ?_
  have:=right_le hr
  have:(lessD v.hi v.lo).rv≠0:=fun e=>by rw [(zeroB_rv lessD_p).2 e] at hz;simp at hz
  grind
theorem narrow_part{w l l':Dx}{p:Int}{r:Bool}(w0:0≤w.m)(l0:0≤l.m)(hw:p2 (-32768)≤w.rv)(hl:l.rv<p2 98304)(e:l'.rv=l.rv)(p0:0≤p)(sw:w.Sm 4294967296)(sl:l'.Sm 4294967296)(hr:r=narrowX w l p) :
    br (ltI 196608 p) (Tv.sv (Sv.one (At.bool false))=bT r) ((eB 2305843009213693952 w∧(-2305843009213693952:Int)≤p∧p≤(2305843009213693952:Int))∧(Dx.Sm 34359738368 (shiftD w p)∧Dx.Sm 34359738368 l')∧true=true∧Tv.sv (Sv.one (At.bool (leI (cmpD (shiftD w p) l') 0)))=bT r):=by
  rw [hr,narrowX_eq w0 l0 hw hl]
  refine br_intro (fun h=>?_) fun h=>?_
  · rw [decide_eq_false]
    intro k
    have:=narrow_p hw hl k
    have:=ltI_true.1 h
    omega
  · have h:=ltI_false.1 h
    refine ⟨⟨sw.eB (by omega),by omega,by omega⟩,⟨(shiftD_sm (N:=4294967296) (M:=196608) w0 sw (by omega) (by omega)).mono (by omega),sl.mono (by omega)⟩,rfl,?_⟩
    have:leI (cmpD (shiftD w p) l') 0=decide (w.rv*p2 p≤l.rv):=by
      unfold leI;rw [←e,←decide_eq_decide.2 (cmp_shift (l:=l') w0)]
    rw [this]
theorem gNarrow_ok:SpecOk Tryz.prog 16 gNarrow :=
  specK_ok (envOk tys2_ok sG1_ok) mixed Tryz.func16 rfl (by decide) (by decide) fun (v:Vx) hv (p:Int) _ _=>⟨fun _=>none,0,by
    have hv:=Vx.Wf.p hv
    show execF _ _ _ _ _ (fun t=>t=bT (narrowB v p))
    refine (gNarrow_vc v p _).mpr (br_intro (fun h=>?_) fun h=>br_intro (fun h1=>?_) fun h1=>⟨rfl,br_intro (fun h2=>?_) fun h2=>br_intro (fun h3=>?_) fun h3=>?_⟩)
    · rw [narrowB,not_true h,Bool.false_and,Bool.and_false]
    · rw [narrowB,lt_not h1,Bool.false_and]
    · have h2:=neI_true.1 h2
      rw [narrowB,nlt_le h1,not_false' h,narrowV,if_pos h2,show eqI v.lo.sgn v.hi.sgn=false from eqI_false.2 h2];rfl
    · have h2:=neI_false.1 h2
      rw [narrowB,nlt_le h1,not_false' h,narrowV,if_neg (by omega),if_pos (eqI_true.1 h3),show eqI v.lo.sgn v.hi.sgn=true from eqI_true.2 h2];rfl
    · have hr:=not_false' h
      have h2:=neI_false.1 h2
      have h3:=eqI_false.1 h3
      have sv:=right_sm hr
      have fv:=right_fits hr
      have p0:=leI_true.1 (nlt_le h1)
      have sl:=lessD_sm hv.2 hv.1 sv.2 sv.1
      have key:narrowB v p=if (lessD v.hi v.lo).zeroB then true else narrowX (lessD v.hi v.lo) (if v.lo.sgn<0 then absD v.hi else absD v.lo) p:=by
        rw [narrowB,nlt_le h1,hr,narrowV,if_neg (by omega),if_neg h3];rfl
      rw [key]
      refine br_intro (fun h4=>⟨sv.2.eB (by omega),⟨sv.2.mono (by omega),sv.1.mono (by omega)⟩,br_intro (fun h5=>?_) fun h5=>?_⟩) fun h4=>⟨⟨sv.2.mono (by omega),sv.1.mono (by omega)⟩,br_intro (fun h5=>?_) fun h5=>?_⟩
      · rw [h5];rfl
      · have h4:=ltI_true.1 h4
        have hneg:v.hi.rv<0:=by
          rcases sgn_rv hv.2 with ⟨a,b⟩|⟨a,b⟩|⟨a,b⟩<;>first | exact b | omega
        rw [h5,if_pos h4]
        refine narrow_part lessD_p absD_p (wide_ge hv hr h5) ?_ ?_ p0 (sl.mono (by omega)) ((negD_sm sv.2 hv.2).mono (by omega)) rfl
        · rw [rv_abs hv.2];exact fits_lt fv.2.1
        · rw [rv_abs hv.2,rv_neg hv.2,(rv_amt hv.2).2 (by grind)]
      · rw [h5];rfl
      · have h4:=ltI_false.1 h4
        have hpos:0<v.lo.rv:=by
          rcases sgn_rv hv.1 with ⟨a,b⟩|⟨a,b⟩|⟨a,b⟩<;>first | exact b | omega
        rw [h5,if_neg h4]
        refine narrow_part lessD_p absD_p (wide_ge hv hr h5) ?_ ?_ p0 (sl.mono (by omega)) (sv.1.mono (by omega)) rfl
        · rw [rv_abs hv.1];exact fits_lt fv.1
        · rw [rv_abs hv.1,(rv_amt hv.1).1 (by grind)]⟩
def sG2:List (FuncId×Spec):=[(17,gMeets),(15,gHas),(16,gNarrow)] ++ sG1
theorem sG2_ok:SpecsOk Tryz.prog sG2:=⟨gMeets_ok,gHas_ok,gNarrow_ok,sG1_ok⟩
def Box3(w:World)(g o:Nat)(a b c:Value):Prop :=
  (w.cell? ⟨g,o,none⟩=some a∧w.cell? ⟨g,o+1,none⟩=some b∧w.cell? ⟨g,o+2,none⟩=some c) ∧
  (w.frozen? ⟨g,o,none⟩=false∧w.frozen? ⟨g,o+1,none⟩=false∧w.frozen? ⟨g,o+2,none⟩=false)
theorem Box3.lt{w:World}{g o:Nat}{a b c:Value}(h:Box3 w g o a b c):g<w.heap.size:=World.block_lt_of_cell? w _ h.1.1
theorem Box3.below{w w':World}{g o:Nat}{a b c:Value}(h:Box3 w g o a b c)(hb:Below w.heap.size w w'):Box3 w' g o a b c:=by
  have hl:=h.lt
  have e:=bcell hb
  obtain ⟨⟨h1,h2,h3⟩,h4,h5,h6⟩:=h
  exact ⟨⟨(e.1 _ _ hl).trans h1,(e.1 _ _ hl).trans h2,(e.1 _ _ hl).trans h3⟩,(e.2 _ _ hl).trans h4,(e.2 _ _ hl).trans h5,(e.2 _ _ hl).trans h6⟩
theorem Box3.mid{w w':World}{B g o:Nat}{a b c:Value}(h:Box3 w g o a b c)(hb:Below B w w')(hl:g<B):Box3 w' g o a b c:=by
  obtain ⟨⟨h1,h2,h3⟩,h4,h5,h6⟩:=h
  exact ⟨⟨(hb.cell (p:=⟨g,o,none⟩) hl).trans h1,(hb.cell (p:=⟨g,o+1,none⟩) hl).trans h2,(hb.cell (p:=⟨g,o+2,none⟩) hl).trans h3⟩,(hb.frozen (p:=⟨g,o,none⟩) hl).trans h4,(hb.frozen (p:=⟨g,o+1,none⟩) hl).trans h5,(hb.frozen (p:=⟨g,o+2,none⟩) hl).trans h6⟩
theorem Box3.other{w:World}{g g' o:Nat}{a b c:Value}(h:Box3 w g 0 a b c)(hg:g≠g')(x:Value):Box3 (w.setCell ⟨g',o,none⟩ x) g 0 a b c:=by
  obtain ⟨⟨h1,h2,h3⟩,h4,h5,h6⟩:=h
  refine ⟨⟨?_,?_,?_⟩,?_,?_,?_⟩
  iterate 3 rw [World.cell?_setCell_other _ _ _ _ (by intro e;simp only [Addr.mk.injEq] at e;omega)];assumption
  all_goals rw [World.frozen?_setCell];assumption
theorem Box3.new(w:World)(a b c:Value)(t:TypeId):Box3 (w.alloc (.cells #[a,b,c] t)) w.heap.size 0 a b c:=by
  refine ⟨⟨?_,?_,?_⟩,?_,?_,?_⟩<;>go_simp
theorem Box3.set{w:World}{g:Nat}{a b c:Value}(h:Box3 w g 0 a b c)(a' b' c':Value) :
    Box3 (((w.setCell ⟨g,0,none⟩ a').setCell ⟨g,1,none⟩ b').setCell ⟨g,2,none⟩ c') g 0 a' b' c':=by
  obtain ⟨⟨h1,h2,h3⟩,h4,h5,h6⟩:=h
  simp only [Nat.zero_add] at h1 h2 h3 h4 h5 h6
  have n01:(⟨g,0,none⟩:Addr)≠⟨g,1,none⟩:=by simp
  have n02:(⟨g,0,none⟩:Addr)≠⟨g,2,none⟩:=by simp
  have n12:(⟨g,1,none⟩:Addr)≠⟨g,2,none⟩:=by simp
  refine ⟨⟨?_,?_,?_⟩,?_,?_,?_⟩
  · rw [World.cell?_setCell_other _ _ _ _ n02.symm,World.cell?_setCell_other _ _ _ _ n01.symm];exact World.cell?_setCell_same _ _ _ h1
  · rw [Nat.zero_add,World.cell?_setCell_other _ _ _ _ n12.symm];exact World.cell?_setCell_same _ _ _ ((World.cell?_setCell_other _ _ _ _ n01).trans h2)
  · rw [Nat.zero_add];exact World.cell?_setCell_same _ _ _ ((World.cell?_setCell_other _ _ _ _ n12).trans ((World.cell?_setCell_other _ _ _ _ n02).trans h3))
  all_goals rw [World.frozen?_setCell,World.frozen?_setCell,World.frozen?_setCell]
  all_goals assumption
theorem NatAt.set{B g o:Nat}{w:World}{v:Value}{xs:List Int}(h:NatAt B w v xs)(hg:g<B)(x:Value):NatAt B (w.setCell ⟨g,o,none⟩ x) v xs:=by
  obtain ⟨A,c,e,h1,h2,h3,h5,h4⟩:=h
  refine ⟨A,c,e,h1,h2,h3,h5,fun hp=>?_⟩
  obtain ⟨g',o',e,hB,hg',hc⟩:=h4 hp
  refine ⟨g',o',e,hB,by simpa using hg',fun j hj=>?_⟩
  rw [World.cell?_setCell_other _ _ _ _ (by intro e;simp only [Addr.mk.injEq] at e;omega),World.frozen?_setCell]
  exact hc j hj
abbrev put3(w:World)(g:Nat)(a b c:Value):World:=((w.setCell ⟨g,0,none⟩ a).setCell ⟨g,1,none⟩ b).setCell ⟨g,2,none⟩ c
theorem NatAt.put{B g:Nat}{w:World}{v:Value}{xs:List Int}(h:NatAt B w v xs)(hg:g<B)(a b c:Value):NatAt B (put3 w g a b c) v xs:=((h.set hg a).set hg b).set hg c
theorem Below.put{B g:Nat}{w0 w:World}(h:Below B w0 w)(hg:B≤g)(a b c:Value):Below B w0 (put3 w g a b c):=((h.setCell hg _).setCell hg _).setCell hg _
theorem results_dy{fn:Func}{p:Tmp}(h:fn.results = #[.cell p 25]){tmps:Array Value}{w:World}{g:Nat}{a b c:Value}(hp:tmps.getD p undef = .pointer (some ⟨g,0,none⟩))(hB:Box3 w g 0 a b c) :
    (results fn tmps).run Tryz.prog w = .ok (.agg #[a,b,c]) w:=by
  obtain ⟨⟨h1,h2,h3⟩,h4,h5,h6⟩:=hB
  simp only [Nat.zero_add] at h1 h2 h3 h4 h5 h6
  have hp':tmps[p]?.getD undef = .pointer (some ⟨g,0,none⟩):=by simpa using hp
  simp [results,h,hp',asAddr,go_sem,loadVar,h1,h2,h3]
theorem size_alloc(w:World)(o:Obj):(w.alloc o).heap.size=w.heap.size+1:=by simp
noncomputable abbrev cpW (w:World) (neg:Bool) (s:Value) (e:Int):World:=((w.alloc (.cells #[.bool neg,s,.int .i64 e] 25)).alloc (.cells #[.bool false,.slice none 0 0,.int .i64 0] 25)).alloc (.cells #[] 52)
theorem cp_below(w:World)(neg:Bool)(s:Value)(e:Int):Below w.heap.size w (cpW w neg s e):=below_plus (below_plus (below_also w _) _) _
theorem cp_size(w:World)(neg:Bool)(s:Value)(e:Int):(cpW w neg s e).heap.size=w.heap.size+3:=by simp [cpW]
theorem cp_row(w:World)(neg:Bool)(s:Value)(e:Int):(cpW w neg s e).ownsRow (w.heap.size+2) 52 1 (.slice (some ⟨w.heap.size+1+1,0,none⟩) 0 0) 0 []:=by
  refine ⟨rfl,.inr ⟨_,0,#[],rfl,Nat.le_refl _,?_,Nat.le_refl _,Nat.zero_le _,rfl,rfl⟩⟩
  have:=heap_alloc_new ((w.alloc (.cells #[.bool neg,s,.int .i64 e] 25)).alloc (.cells #[.bool false,.slice none 0 0,.int .i64 0] 25)) (.cells #[] 52)
  rwa [size_alloc,size_alloc] at this
theorem cp_box(w:World)(neg:Bool)(s:Value)(e:Int):Box3 (cpW w neg s e) w.heap.size 0 (.bool neg) s (.int .i64 e)∧Box3 (cpW w neg s e) (w.heap.size+1) 0 (.bool false) (.slice none 0 0) (.int .i64 0):=by
  refine ⟨((Box3.new w _ _ _ _).below (below_also _ _)).below (below_also _ _),?_⟩
  have:=(Box3.new (w.alloc (.cells #[.bool neg,s,.int .i64 e] 25)) (.bool false) (.slice none 0 0) (.int .i64 0) 25).below (below_also _ (.cells #[] 52))
  rwa [size_alloc] at this
set_option maxHeartbeats 800000 in
theorem copy4_calls{w:World}{s:Value}{d:Dx}(h:NatAt 0 w s d.xs) :
    Calls Tryz.prog 5 #[.agg #[.bool d.neg,s,.int .i64 d.e]] w fun e w'=>∃ s',e = .returned (.agg #[.bool d.neg,s',.int .i64 d.e])∧NatAt w.heap.size w' s' d.xs∧Below w.heap.size w w':=by
  have HN:=Lib.hid h
  clear h
  obtain ⟨neg,xs,e⟩:=d
  simp only at *
  go_enter Tryz.func5,Tryz.ntmps5
  go_wp2_with (at_builtin;refine wpList_append_copy rfl (w.heap.size+2) rfl (.tmp 3) (.tmp 5) 23 rfl Tryz.underlying23 rfl rfl (cp_row _ _ _ _) (HN.out.below (cp_below _ _ _ _)) (Below.refl _ _) (by rw [cp_size];omega) ?_;intro v3 w3 hn3 hb3 _;obtain ⟨A3,c3,rfl,hh⟩:=hn3;have HN3:Hid (NatAt (w.heap.size+2) w3 (.slice A3 xs.length c3) xs):=Lib.hid ⟨A3,c3,rfl,hh⟩;have HB3:=Lib.hid hb3;have k1:=(cp_box w neg s e).1.mid hb3 (by omega);have k2:=(cp_box w neg s e).2.mid hb3 (by omega);obtain ⟨⟨a1,a2,a3⟩,a4,a5,a6⟩:=k1;obtain ⟨⟨b1,b2,b3⟩,b4,b5,b6⟩:=k2;simp only [Nat.zero_add] at a1 a2 a3 a4 a5 a6 b1 b2 b3 b4 b5 b6;clear hh hb3)
  refine bodyPost_ret (results_dy rfl rfl (Box3.set (Box3.other ⟨⟨b1,b2,b3⟩,b4,b5,b6⟩ (by omega) _) _ _ _)) rfl ?_
  have hb:=(((cp_below w neg s e).trans (HB3.out.mono (by omega))).setCell (p:=⟨w.heap.size,1,none⟩) (Nat.le_refl _) (.slice A3 xs.length c3))
  exact ⟨_,rfl,((HN3.out.set (g:=w.heap.size) (by omega) _).put (g:=w.heap.size+1) (by omega) _ _ _).mono (by omega),Below.put hb (by omega) _ _ _⟩
def JunkAt(n0:Nat)(w:World)(v:Value):Prop :=
  ∃ A n c,v = .slice A n c∧n≤c∧n≤17592186044415∧c≤9223372036854775807 ∧
    (0<n→∃ g o,A=some ⟨g,o,none⟩∧n0≤g∧g<w.heap.size∧∀ j,j<n→(∃ y,w.cell? ⟨g,o+j,none⟩=some (.int .u64 y))∧w.frozen? ⟨g,o+j,none⟩=false)
structure Jk (n0:Nat) (w w':World):Prop where
  below:Below n0 w w'
  size:w.heap.size≤w'.heap.size
  keep:∀ g o v,w.cell? ⟨g,o,none⟩=some v→w'.cell? ⟨g,o,none⟩=some v∨(∃ y,v = .int .u64 y)∧∃ y,w'.cell? ⟨g,o,none⟩=some (.int .u64 y)
  frz:∀ g o,g<w.heap.size→w'.frozen? ⟨g,o,none⟩=w.frozen? ⟨g,o,none⟩
theorem Jk.refl(n0:Nat)(w:World):Jk n0 w w:=⟨.refl _ _,Nat.le_refl _,fun _ _ _ h=>.inl h,fun _ _ _=>rfl⟩
theorem Jk.trans{n0:Nat}{a b c:World}(h:Jk n0 a b)(k:Jk n0 b c):Jk n0 a c where
  below:=h.below.trans k.below
  size:=Nat.le_trans h.size k.size
  keep:=fun g o v e=>by
    rcases h.keep g o v e with e1 | ⟨⟨y,rfl⟩,y',e1⟩
    · exact k.keep g o v e1
    · rcases k.keep g o _ e1 with e2 | ⟨_,y2,e2⟩
      · exact .inr ⟨⟨y,rfl⟩,y',e2⟩
      · exact .inr ⟨⟨y,rfl⟩,y2,e2⟩
  frz:=fun g o hg=>(k.frz g o (Nat.lt_of_lt_of_le hg h.size)).trans (h.frz g o hg)
theorem Jk.grow{n0:Nat}{w w':World}(h:Below w.heap.size w w')(hn:n0≤w.heap.size):Jk n0 w w' where
  below:=h.mono hn
  size:=h.size
  keep:=fun g o v e=>.inl ((h.cell (p:=⟨g,o,none⟩) (World.block_lt_of_cell? w _ e)).trans e)
  frz:=fun g o hg=>h.frozen (p:=⟨g,o,none⟩) hg
theorem Jk.set{n0 g o:Nat}{w:World}{y z:Int}(hg:n0≤g)(h:w.cell? ⟨g,o,none⟩=some (.int .u64 y)):Jk n0 w (w.setCell ⟨g,o,none⟩ (.int .u64 z)) where
  below:=(Below.refl _ _).setCell hg _
  size:=by simp
  keep:=fun g' o' v e=>by
    by_cases c:(⟨g',o',none⟩:Addr)=⟨g,o,none⟩
    · rw [c] at e ⊢
      rw [h] at e;cases e
      exact .inr ⟨⟨y,rfl⟩,z,World.cell?_setCell_same _ _ _ h⟩
    · exact .inl ((World.cell?_setCell_other _ _ _ _ (fun e=>c e.symm)).trans e)
  frz:=fun g' o' _=>World.frozen?_setCell _ _ _ _
theorem JunkAt.jk{n0:Nat}{w w':World}{v:Value}(h:JunkAt n0 w v)(k:Jk n0 w w'):JunkAt n0 w' v:=by
  obtain ⟨A,n,c,e,h1,h2,h3,h4⟩:=h
  refine ⟨A,n,c,e,h1,h2,h3,fun hp=>?_⟩
  obtain ⟨g,o,e,hg,hl,hc⟩:=h4 hp
  refine ⟨g,o,e,hg,Nat.lt_of_lt_of_le hl k.size,fun j hj=>?_⟩
  obtain ⟨⟨y,hy⟩,hf⟩:=hc j hj
  refine ⟨?_,(k.frz g (o+j) hl).trans hf⟩
  rcases k.keep g (o+j) _ hy with e | ⟨_,y',e⟩
  · exact ⟨y,e⟩
  · exact ⟨y',e⟩
theorem NatIn.junk{D:Nat→Prop}{n0:Nat}{w:World}{v:Value}{xs:List Int}(h:NatIn D w v xs)(hD:∀ g,D g→n0≤g):JunkAt n0 w v:=by
  obtain ⟨A,c,e,h1,h2,h3,h5,h4⟩:=h
  refine ⟨A,_,c,e,h1,h2.2,h2.1,fun hp=>?_⟩
  obtain ⟨g,o,e,hb,hg,hc⟩:=h4 hp
  exact ⟨g,o,e,hD g hb,hg,fun j hj=>⟨⟨_,(hc j hj).1⟩,(hc j hj).2⟩⟩
theorem short3_step{r a d:Int}(r0:0≤r)(rd:r<d)(d1:d≤4294967296)(wa:Word a) :
    (r*4294967296+a/4294967296)/d*4294967296+((r*4294967296+a/4294967296) % d*4294967296+a % 4294967296)/d=(r*18446744073709551616+a)/d ∧
    ((r*4294967296+a/4294967296) % d*4294967296+a % 4294967296) % d=(r*18446744073709551616+a) % d ∧
    r*4294967296+a/4294967296<18446744073709551616∧(r*4294967296+a/4294967296) % d*4294967296+a % 4294967296<18446744073709551616 ∧
    (r*18446744073709551616+a)/d<18446744073709551616∧(r*4294967296+a/4294967296)/d<4294967296:=by
  obtain ⟨a0,a1⟩:=wa
  have hd:0<d:=by omega
  have hh:r*18446744073709551616+a=(r*4294967296+a/4294967296)*4294967296+a % 4294967296:=by omega
  have hlt:(r*18446744073709551616+a)/d<18446744073709551616:=Int.ediv_lt_of_lt_mul hd (by
    have:=imR (show r+1≤d by omega) (show (0:Int)≤18446744073709551616 by omega)
    rw [Int.add_mul] at this;rw [Int.mul_comm 18446744073709551616];omega)
  have hlt2:(r*4294967296+a/4294967296)/d<4294967296:=Int.ediv_lt_of_lt_mul hd (by
    have:=imR (show r+1≤d by omega) (show (0:Int)≤4294967296 by omega)
    rw [Int.add_mul] at this;rw [Int.mul_comm 4294967296];omega)
  have hm0:=Int.emod_nonneg (r*4294967296+a/4294967296) (show d≠0 by omega)
  have hm1:=Int.emod_lt_of_pos (r*4294967296+a/4294967296) hd
  have hb:r*4294967296+a/4294967296<18446744073709551616:=by omega
  have hdm:=Int.mul_ediv_add_emod (r*4294967296+a/4294967296) d
  rw [hh]
  generalize r*4294967296+a/4294967296=h at *
  have e:h*4294967296+a % 4294967296=(h % d*4294967296+a % 4294967296)+d*(h/d*4294967296):=by
    conv=>lhs;rw [←hdm]
    rw [Int.add_mul,Int.mul_assoc];omega
  refine ⟨?_,?_,hb,by omega,?_,hlt2⟩
  · rw [e,Int.add_mul_ediv_left _ _ (by omega),Int.add_comm]
  · rw [e,Int.add_mul_emod_self_left]
  · rw [←hh];exact hlt
set_option maxRecDepth 100000 in
set_option maxHeartbeats 3200000 in
theorem short3_calls{B:Nat}{w:World}{v:Value}{xs:List Int}{d:Int}(h:NatAt B w v xs)(wd:Word d)(hd:0<d)(hd2:d≤4294967296) :
    Calls Tryz.prog 129 #[v,.int .u64 d] w (RNatW w (ws (val xs/d)) (val xs % d)):=by
  obtain ⟨A1,L1,c1,g1,o1,rfl,a1,k1,q1,l1,hg1,hc1,e1,wx⟩:=h.sub
  have WD:Hid (Word d):=wd
  have b1:L1≤17592186044415:=by have:=e1.out;omega
  have hmk:=make_run 23 Tryz.underlying23 L1 (by omega)
  clear h wd
  go_enter Tryz.func129,Tryz.ntmps129
  go_wp2
  go_loopw [7,8] (fun r i wr=>∃ (k:Nat) (ts:List Int) (rr:Int),k≤L1∧i = .int .i64 ((k:Int)-1)∧r = .int .u64 rr∧w.heap.size<wr.heap.size∧RowAt wr w.heap.size (List.replicate k 0 ++ ts)∧Below w.heap.size w wr∧Hid (ts.length+k=L1∧Words ts∧Word rr∧rr<d∧val ts*d+rr=val (xs.drop k))) (fun _ i _=>(intOf i+1).toNat)
  case atStart =>
    refine ⟨L1,[],0,Nat.le_refl _,rfl,rfl,by simp,?_,below_also _ _,by simp,Words.nil,⟨by omega,by omega⟩,hd,?_⟩
    · rw [List.append_nil];exact RowAt.made _ _
    · rw [List.drop_of_length_le (by rw [e1.out];omega)];simp [val]
  case round =>
    obtain ⟨k,ts,rr,hk,rfl,rfl,hG,hrow,hbel,hr⟩:=hrel
    obtain ⟨r1,r2,r3,r4,r5⟩:=hr.out
    by_cases h0:0<k
    · obtain ⟨j,rfl⟩:∃ j,k=j+1:=⟨k-1,by omega⟩
      obtain rfl:=a1 (by omega)
      have hg1':=hg1 (by omega)
      have hxj:wr.cell? ⟨g1,o1+j,none⟩=some (.int .u64 (nth xs j)):=((bcell hbel).1 _ _ hg1').trans (hc1 j (by omega))
      have e0:((j+1:Nat):Int)-1=(j:Int):=by omega
      rw [e0]
      clear e0
      have wxj:Hid (Word (nth xs j)):=wx.out.nth j
      have hlen:(List.replicate (j+1) (0:Int) ++ ts).length=L1:=by simp;omega
      obtain ⟨w1,w2,w3⟩:=div64_word r3 wxj.out WD.out r4
      have hst:=short_step hd (show j<xs.length by rw [e1.out];omega) r5
      obtain ⟨s1,s2,s3,s4,s5,s6⟩:=short3_step r3.1 r4 hd2 wxj.out
      rw [←s1,←s2] at hst
      rw [←s1] at w1
      rw [←s2] at w2 w3
      have a0:=wxj.out.1
      have a1':=wxj.out.2
      have rr0:=r3.1
      have rr1:=r3.2
      have m0:=Int.emod_nonneg (rr*4294967296+nth xs j/4294967296) (show d≠0 by omega)
      have m1:=Int.emod_lt_of_pos (rr*4294967296+nth xs j/4294967296) hd
      have q0:=Int.ediv_nonneg (show 0≤rr*4294967296+nth xs j/4294967296 by omega) (show 0≤d by omega)
      have n0:=Int.ediv_nonneg (show 0≤(rr*4294967296+nth xs j/4294967296) % d*4294967296+nth xs j % 4294967296 by omega) (show 0≤d by omega)
      have hout:∀ n,(wr.drewN n).cell? ⟨w.heap.size,j,none⟩=some (.int .u64 (nth (List.replicate (j+1) 0 ++ ts) j)):=fun n=>(hrow.draws n).cell (by omega)
      have hfr:∀ n,(wr.drewN n).frozen? ⟨w.heap.size,j,none⟩=false:=fun n=>(hrow.draws n).frozen _
      have hnew':Hid (∀ n Q,RowAt ((wr.drewN n).setCell ⟨w.heap.size,j,none⟩ (.int .u64 Q)) w.heap.size (List.replicate j 0 ++ (Q :: ts))):=fun n Q=>by
        have:=(hrow.draws n).set j Q
        rw [List.replicate_succ',List.append_assoc,List.set_append_right _ _ (by simp),List.length_replicate,Nat.sub_self] at this
        exact this
      have hbel2:Hid (∀ n Q,Below w.heap.size w ((wr.drewN n).setCell ⟨w.heap.size,j,none⟩ (.int .u64 Q))):=fun n Q=>(below_draws hbel n).setCell (Nat.le_refl _) _
      have HT:Hid (_∧_∧_∧_∧_∧_):=⟨hst,w1,w2,w3,r1,r2⟩
      clear hr r1 r2 r3 r4 r5 w1 w2 w3 hst hrow hbel hlen s1 s2 s5
      generalize nth xs j=aj at *
      go_wp2
      have H0:0≤rr*4294967296+aj/4294967296:=by omega
      generalize rr*4294967296+aj/4294967296=H at *
      have k0:0≤H % d*4294967296+aj % 4294967296:=by omega
      have hw:IntKind.u64.wrap (H % d*4294967296)=H % d*4294967296:=by rw [wrap_lo];exact Int.emod_eq_of_lt (by omega) (by omega)
      have hm:H.tmod d=H % d:=Int.tmod_eq_emod_of_nonneg H0
      go_quiet (fail)
      clear hw hm
      generalize H % d*4294967296+aj % 4294967296=K at *
      have kd:=Int.emod_nonneg K (show d≠0 by omega)
      have hq:=(Lib.hid (HT.out.2.1.2))
      have hd0:¬ d=0:=by omega
      have e2:IntKind.u64.wrap (H.tdiv d)=H/d:=IntWalk.u64_quo _ _ ⟨H0,by omega,by omega⟩
      have e3:IntKind.u64.wrap (K.tdiv d)=K/d:=IntWalk.u64_quo _ _ ⟨k0,by omega,by omega⟩
      have hw:IntKind.u64.wrap (H/d*4294967296)=H/d*4294967296:=by rw [wrap_lo];exact Int.emod_eq_of_lt (by omega) (by omega)
      have hw2:IntKind.u64.wrap (H/d*4294967296+K/d)=H/d*4294967296+K/d:=by rw [wrap_lo];exact Int.emod_eq_of_lt (by omega) (by have:=hq.out;omega)
      have hjL:j<L1:=by omega
      go_wp2
      go_still_tail 11,(by kernel_rfl)
      change wpList _ _ _ _ _ (wr.drewN nq).drew
      have hout':(wr.drewN nq).drew.cell? ⟨w.heap.size,j,none⟩=some (.int .u64 (nth (List.replicate (j+1) 0 ++ ts) j)):=hout nq
      have hfr':(wr.drewN nq).drew.frozen? ⟨w.heap.size,j,none⟩=false:=hfr nq
      have hG2:w.heap.size<(wr.drewN nq).drew.heap.size:=hG
      have hnew2:Hid (∀ Q,RowAt ((wr.drewN nq).drew.setCell ⟨w.heap.size,j,none⟩ (.int .u64 Q)) w.heap.size (List.replicate j 0 ++ (Q :: ts))):=fun Q=>hnew'.out nq Q
      have hbel3:Hid (∀ Q,Below w.heap.size w ((wr.drewN nq).drew.setCell ⟨w.heap.size,j,none⟩ (.int .u64 Q))):=fun Q=>(hbel2.out nq Q).drew
      clear hout hfr hnew' hbel2 hxj hw hw2 e2 e3
      generalize (wr.drewN nq).drew=wz at *
      go_wp2
      go_roundw
      case rel =>
        obtain ⟨t1,t2,t3,t4,t5,t6⟩:=HT.out
        exact ⟨j,_ :: ts,K % d,by omega,rfl,rfl,by simpa using hG2,hnew2.out _,hbel3.out _,by simp;omega,t6.cons t2,t3,t4,t1⟩
      case measure=>simp [intOf]
    · obtain rfl:k=0:=by omega
      have hn1:Hid (NatAt w.heap.size wr (.slice (some ⟨w.heap.size,0,none⟩) L1 L1) ts):=by
        rw [List.replicate_zero,List.nil_append] at hrow
        exact hrow.nat (Nat.le_refl _) r2 _ (by omega) (by omega)
      have hval:Hid (val ts=val xs/d∧rr=val xs % d):=by
        rw [List.drop_zero] at r5
        have h0:=r3.1
        refine ⟨?_,?_⟩
        · rw [←r5,Int.add_comm,Int.add_mul_ediv_right _ _ (by omega),Int.ediv_eq_zero_of_lt h0 r4,Int.zero_add]
        · rw [←r5,Int.add_comm,Int.add_mul_emod_self_right,Int.emod_eq_of_lt h0 r4]
      have hbel2:Hid (Below w.heap.size w wr):=hbel
      clear hr r1 r2 r3 r4 r5 hrow hbel
      go_wp2_with fail
      refine (norm_calls hn1.out).mono ?_
      rintro e w' ⟨v',rfl,hn',hb'⟩
      have HB:=Lib.hid hb'
      clear hb'
      go_wp2
      go_ret2
      refine ⟨v',by rw [←hval.out.2];rfl,?_,below_then hbel2.out HB.out⟩
      rw [←hval.out.1]
      exact NatAt.mono hn' hbel2.out.size
theorem short3u_calls{B:Nat}{w:World}{v:Value}{xs:List Int}{d:Int}(h:NatAt B w v xs)(wd:Word d)(hd:0<d)(hd2:d≤4294967296) :
    Calls Tryz.prog 111 #[v,.int .u64 d] w (RNat w (ws (val xs/d))):=by
  go_enter Tryz.func111,Tryz.ntmps111
  go_wp2_with fail
  refine (short3_calls h wd hd hd2).mono ?_
  rintro e w' ⟨v',rfl,hn,hb⟩
  have HB:=Lib.hid hb
  clear hb
  go_wp2
  go_ret
  exact ⟨v',rfl,hn,HB.out⟩
def Rp(p:Int)(x:Rat):Prop:=∃ s e:Int,x=(s:Rat)*p2 e∧(s:Rat)<p2 p∧-(p2 p)<(s:Rat)
def Dn(p:Int)(q r:Rat):Prop:=Rp p r∧r≤q∧∀ t,Rp p t→t≤q→t≤r
def Up(p:Int)(q r:Rat):Prop:=Rp p r∧q≤r∧∀ t,Rp p t→q≤t→r≤t
theorem Rp.neg{p:Int}{x:Rat}:Rp p x→Rp p (-x)
  | ⟨s,e,h,h1,h2⟩=>⟨-s,e,by rw [h,Rat.intCast_neg,Rat.neg_mul],by rw [Rat.intCast_neg];grind,by rw [Rat.intCast_neg];grind⟩
theorem Rp.zero(p:Int):Rp p 0:=by have:=p2_pos p;exact ⟨0,0,by simp,by simpa using this,by simp;grind⟩
theorem Up.neg{p:Int}{q r:Rat}(h:Up p q r):Dn p (-q) (-r) :=
  ⟨h.1.neg,by have:=h.2.1;grind,fun t ht hq=>by have:=h.2.2 (-t) ht.neg (by grind);grind⟩
theorem Dn.neg{p:Int}{q r:Rat}(h:Dn p q r):Up p (-q) (-r) :=
  ⟨h.1.neg,by have:=h.2.1;grind,fun t ht hq=>by have:=h.2.2 (-t) ht.neg (by grind);grind⟩
theorem Dn.mono{p:Int}{q q' r r':Rat}(h:Dn p q r)(h':Dn p q' r')(hq:q≤q'):r≤r':=h'.2.2 r h.1 (by have:=h.2.1;grind)
theorem Up.mono{p:Int}{q q' r r':Rat}(h:Up p q r)(h':Up p q' r')(hq:q≤q'):r≤r':=h.2.2 r' h'.1 (by have:=h'.2.1;grind)
theorem Dn.uniq{p:Int}{q r r':Rat}(h:Dn p q r)(h':Dn p q r'):r=r':=Rat.le_antisymm (h.mono h' (by grind)) (h'.mono h (by grind))
theorem Up.uniq{p:Int}{q r r':Rat}(h:Up p q r)(h':Up p q r'):r=r':=Rat.le_antisymm (h.mono h' (by grind)) (h'.mono h (by grind))
theorem Dn.self{p:Int}{q:Rat}(h:Rp p q):Dn p q q:=⟨h,by grind,fun _ _ h=>h⟩
theorem Up.self{p:Int}{q:Rat}(h:Rp p q):Up p q q:=⟨h,by grind,fun _ _ h=>h⟩
theorem rp_grid{p j:Int}{t:Rat}(ht:Rp p t)(h:p2 (j+p-1)≤t):Mul2 j t:=by
  obtain ⟨s,e,rfl,h1,h2⟩:=ht
  have h3:p2 (j+p-1)<p2 (p+e):=by
    rw [p2_add p e]
    have:=(Rat.mul_lt_mul_right (p2_pos e)).2 h1
    grind
  have h4:=p2_lt_iff.1 h3
  exact ⟨s*2^(e-j).toNat,by rw [rcM,←p2_toNat (by omega),Rat.mul_assoc,p2_sub]⟩
theorem cast_lt{a b:Int}:(a:Rat)<(b:Rat)↔a<b:=Rat.intCast_lt_intCast
theorem cast_le{a b:Int}:(a:Rat)≤(b:Rat)↔a≤b:=Rat.intCast_le_intCast
theorem mul_p2_lt{a b:Rat}(j:Int):a*p2 j<b*p2 j↔a<b:=Rat.mul_lt_mul_right (p2_pos j)
theorem mul_p2_le{a b:Rat}(j:Int):a*p2 j≤b*p2 j↔a≤b:=by rw [←Rat.not_lt,←Rat.not_lt,mul_p2_lt]
theorem Mul2.near{j k:Int}{t:Rat}(h:Mul2 j t)(hl:t<((k+1:Int):Rat)*p2 j):t≤(k:Rat)*p2 j:=by
  obtain ⟨s,rfl⟩:=h
  rw [mul_p2_lt,cast_lt] at hl
  rw [mul_p2_le,cast_le];omega
theorem dn_grid{p j k:Int}{q:Rat}(hp:1≤p)(h1:(k:Rat)*p2 j≤q)(h2:q<((k+1:Int):Rat)*p2 j)(h3:p2 (j+p-1)≤q)(h4:q<p2 (j+p)):Dn p q ((k:Rat)*p2 j):=by
  have e1:p2 (j+p)=p2 p*p2 j:=by rw [Int.add_comm,p2_add]
  have e2:p2 (j+p-1)=((2^(p-1).toNat:Int):Rat)*p2 j:=by rw [←p2_toNat (by omega),←p2_add];congr 1;omega
  have k1:(k:Rat)<p2 p:=by rw [←mul_p2_lt j,←e1];grind
  have k2:(2:Int)^(p-1).toNat<k+1:=by rw [←cast_lt,←mul_p2_lt j,←e2];grind
  have k3:=two_pow_pos (p-1).toNat
  have k4:(0:Rat)≤(k:Rat):=by rw [show (0:Rat)=((0:Int):Rat) from rfl,cast_le];omega
  have p0:=p2_pos p
  refine ⟨⟨k,j,rfl,k1,by grind⟩,h1,fun t ht hq=>?_⟩
  by_cases hc:p2 (j+p-1)≤t
  · exact (rp_grid ht hc).near (by grind)
  · have:((2^(p-1).toNat:Int):Rat)*p2 j≤(k:Rat)*p2 j:=by rw [mul_p2_le,cast_le];omega
    grind
theorem up_grid{p j k:Int}{q:Rat}(hp:1≤p)(h1:((k-1:Int):Rat)*p2 j<q)(h2:q≤(k:Rat)*p2 j)(h3:p2 (j+p-1)≤q)(h4:q≤p2 (j+p)):Up p q ((k:Rat)*p2 j):=by
  have e1:p2 (j+p)=((2^p.toNat:Int):Rat)*p2 j:=by rw [←p2_toNat (by omega),←p2_add];congr 1;omega
  have k1:k-1<2^p.toNat:=by rw [←cast_lt,←mul_p2_lt j,←e1];grind
  have q0:0<q:=by have:=p2_pos (j+p-1);grind
  have k2:0<k:=by
    have:((0:Int):Rat)*p2 j<(k:Rat)*p2 j:=by rw [show ((0:Int):Rat)*p2 j=0 by simp];grind
    rwa [mul_p2_lt,cast_lt] at this
  have p0:=p2_pos p
  refine ⟨?_,h2,fun t ht hq=>?_⟩
  · by_cases hk:k=2^p.toNat
    · refine ⟨1,j+p,by rw [hk,e1];simp,?_,?_⟩
      · have:=p2_lt (a:=0) (b:=p) (by omega)
        rw [p2_zero] at this;exact this
      · have:((1:Int):Rat)=1:=rfl
        rw [this];grind
    · refine ⟨k,j,rfl,?_,?_⟩
      · rw [p2_toNat (by omega),cast_lt];omega
      · have:((0:Int):Rat)<(k:Rat):=cast_lt.2 k2
        have e0:((0:Int):Rat)=0:=rfl
        rw [e0] at this;grind
  · obtain ⟨s,rfl⟩:=rp_grid (j:=j) ht (by grind)
    have:((k-1:Int):Rat)*p2 j<(s:Rat)*p2 j:=by grind
    rw [mul_p2_lt,cast_lt] at this
    rw [mul_p2_le,cast_le];omega
theorem rp_small{s e p:Int}(h0:0≤s)(h:(blen s:Int)≤p):Rp p ((s:Rat)*p2 e):=by
  refine ⟨s,e,rfl,?_,?_⟩
  · rw [p2_toNat (by omega),cast_lt]
    have:=blen_lt s
    have:=two_pow_le (j:=blen s) (k:=p.toNat) (by omega)
    omega
  · have:=p2_pos p
    have:((0:Int):Rat)≤(s:Rat):=cast_le.2 h0
    have e0:((0:Int):Rat)=0:=rfl
    rw [e0] at this;grind
theorem cutX_best{x:Dx}{p:Int}(hx:0≤x.m)(hodd:x.m≠0→x.m % 2=1)(hp:1≤p):Dn p x.rv (cutX x p false).rv∧Up p x.rv (cutX x p true).rv:=by
  unfold cutX
  by_cases hn:(blen x.m:Int)-p≤0
  · rw [if_pos hn,if_pos hn]
    have hr:Rp p x.rv:=by
      have:=rp_small (e:=x.e) hx (show (blen x.m:Int)≤p by omega)
      rcases (show 0≤x.rv∨x.rv≤0 by grind) with h | h
      · rw [(rv_amt hx).1 h];exact this
      · have e:=(rv_amt hx).2 h
        rw [show x.rv = -((x.m:Rat)*p2 x.e) by grind];exact this.neg
    exact ⟨.self hr,.self hr⟩
  · rw [if_neg hn,if_neg hn]
    obtain ⟨n,hN⟩:∃ n:Int,(blen x.m:Int)-p=n:=⟨_,rfl⟩
    rw [hN] at hn ⊢
    have hm:0<x.m:=by
      by_cases hz:x.m=0
      · rw [hz] at hN;simp [blen] at hN;omega
      · omega
    have hp2:=two_pow_pos n.toNat
    have hev:(2:Int)^n.toNat=2*2^(n.toNat-1):=by
      obtain ⟨k,hk⟩:∃ k,n.toNat=k+1:=⟨n.toNat-1,by omega⟩
      rw [hk,Int.pow_succ,Nat.add_sub_cancel];omega
    have d1:=Int.mul_ediv_add_emod x.m (2^n.toNat)
    have d2:=Int.emod_nonneg x.m (show (2:Int)^n.toNat≠0 by omega)
    have d3:=Int.emod_lt_of_pos x.m hp2
    have d4:x.m % 2^n.toNat≠0:=by
      intro h0
      have h1:=hodd (by omega)
      rw [h0,Int.add_zero,hev,Int.mul_assoc] at d1
      omega
    generalize x.m/2^n.toNat=k at *
    have k0:0≤k:=by
      by_cases hk:0≤k
      · exact hk
      · have:2^n.toNat*k≤2^n.toNat*(-1):=imL (by omega) (by omega)
        omega
    have eq1:(x.m:Rat)*p2 x.e=((2^n.toNat*k+x.m % 2^n.toNat:Int):Rat)*p2 x.e:=by rw [d1]
    have ej:∀ c:Int,(c:Rat)*p2 (x.e+n)=((2^n.toNat*c:Int):Rat)*p2 x.e:=fun c=>by
      rw [Int.add_comm,p2_add,p2_toNat (n:=n) (by omega),rcM];grind
    have b1:(k:Rat)*p2 (x.e+n)≤(x.m:Rat)*p2 x.e:=by rw [ej,eq1,mul_p2_le,cast_le];omega
    have b1':(k:Rat)*p2 (x.e+n)<(x.m:Rat)*p2 x.e:=by rw [ej,eq1,mul_p2_lt,cast_lt];omega
    have b2:(x.m:Rat)*p2 x.e<((k+1:Int):Rat)*p2 (x.e+n):=by rw [ej,eq1,mul_p2_lt,cast_lt,Int.mul_add,Int.mul_one];omega
    have a1:=amt_ge (e:=x.e) hm
    have a2:=amt_lt (m:=x.m) (e:=x.e)
    rw [show x.e+(blen x.m:Int)-1=x.e+n+p-1 by omega] at a1
    rw [show x.e+(blen x.m:Int)=x.e+n+p by omega] at a2
    have DN:=dn_grid hp b1 b2 a1 a2
    have UP:=up_grid (k:=k+1) hp (by rw [Int.add_sub_cancel];exact b1') (rlL b2) a1 (rlL a2)
    rw [show ((k+1:Int):Rat)=(k:Rat)+1 by rw [rcA];rfl] at UP
    cases hneg:x.neg with
    | false =>
      have e:x.rv=(x.m:Rat)*p2 x.e:=by unfold Dx.rv Dx.sm;rw [hneg];simp
      rw [rv_mkD (by simp;omega),rv_mkD (by simp;omega),e]
      simpa using ⟨DN,UP⟩
    | true =>
      have e:x.rv = -((x.m:Rat)*p2 x.e):=by unfold Dx.rv Dx.sm;rw [hneg];simp [Rat.neg_mul]
      rw [rv_mkD (by simp;omega),rv_mkD (by simp;omega),e]
      have:=UP.neg
      have h2:=DN.neg
      simpa [Rat.neg_mul] using ⟨this,h2⟩
theorem cutD_best{d:Dx}{p:Int}(hd:0≤d.m)(hp:1≤p):Dn p d.rv (cutD d p false).rv∧Up p d.rv (cutD d p true).rv:=by
  have:=cutX_best (x:=oneD d) oneD_p (one_odd hd) hp
  rw [rv_one hd] at this
  exact this
theorem two_p2(E:Int):p2 (E+1)=2*p2 E:=by rw [Int.add_comm,p2_add,p2_one]
theorem sm_amt(d:Dx):d.rv=(if d.neg then -1 else 1)*((d.m:Rat)*p2 d.e):=by
  unfold Dx.rv Dx.sm
  cases d.neg<;>simp [Rat.neg_mul]
theorem cast_ne{a:Int}(h:0<a):(0:Rat)<(a:Rat):=by
  have:=cast_lt.2 h
  have e0:((0:Int):Rat)=0:=rfl
  rwa [e0] at this
theorem lin_le{a b x c:Rat}(h1:a≤x)(h2:x≤b):∃ x0,(x0=a∨x0=b)∧x0*c≤x*c:=by
  rcases (show 0≤c∨c≤0 by grind) with h | h
  · exact ⟨a,.inl rfl,rmR h1 h⟩
  · refine ⟨b,.inr rfl,?_⟩
    have:=rmR h2 (show 0≤-c by grind)
    grind
theorem corner_le{a b c d x y:Rat}(h1:a≤x)(h2:x≤b)(h3:c≤y)(h4:y≤d):∃ x0 y0,(x0=a∨x0=b)∧(y0=c∨y0=d)∧x0*y0≤x*y:=by
  obtain ⟨y0,k1,k2⟩:=lin_le (c:=x) h3 h4
  obtain ⟨x0,k3,k4⟩:=lin_le (c:=y0) h1 h2
  exact ⟨x0,y0,k3,k1,by grind⟩
theorem corner_ge{a b c d x y:Rat}(h1:a≤x)(h2:x≤b)(h3:c≤y)(h4:y≤d):∃ x0 y0,(x0=a∨x0=b)∧(y0=c∨y0=d)∧x*y≤x0*y0:=by
  obtain ⟨x0,y0,k1,k2,k3⟩:=corner_le (a:=-b) (b:=-a) (x:=-x) (show -b≤-x by grind) (by grind) h3 h4
  refine ⟨-x0,y0,by rcases k1 with h | h<;>rw [h]<;>simp,k2,by grind⟩
def sumTo(a:Nat→Rat):Nat→Rat
  | 0=>0
  | n+1=>sumTo a n+a n
theorem sumTo_congr{a b:Nat→Rat}:∀ {n:Nat},(∀ i,i<n→a i=b i)→sumTo a n=sumTo b n
  | 0,_=>rfl
  | n+1,h=>by rw [sumTo,sumTo,sumTo_congr (fun i hi=>h i (by omega)),h n (by omega)]
theorem sumTo_add(a b:Nat→Rat):∀ n,sumTo (fun i=>a i+b i) n=sumTo a n+sumTo b n
  | 0=>by show (0:Rat)=0+0;grind
  | n+1=>by rw [sumTo,sumTo,sumTo,sumTo_add a b n];grind
theorem sumTo_mul(c:Rat)(a:Nat→Rat):∀ n,sumTo (fun i=>c*a i) n=c*sumTo a n
  | 0=>by simp [sumTo]
  | n+1=>by rw [sumTo,sumTo,sumTo_mul c a n];grind
def Enc(s:Nat→Rat)(lo hi:Rat):Prop:=∀ e:Rat,0<e→∃ N,∀ n,N≤n→lo-e≤s n∧s n≤hi+e
theorem Enc.wide{s:Nat→Rat}{lo hi lo' hi':Rat}(h:Enc s lo hi)(h1:lo'≤lo)(h2:hi≤hi'):Enc s lo' hi':=fun e he=>by
  obtain ⟨N,k⟩:=h e he
  exact ⟨N,fun n hn=>by have:=k n hn;exact ⟨by grind,by grind⟩⟩
theorem Enc.meets{s:Nat→Rat}{a b c d:Rat}(h:Enc s a b)(k:Enc s c d):a≤d:=by
  rcases (show a≤d∨d<a by grind) with h0 | h0
  · exact h0
  · obtain ⟨N,h1⟩:=h ((a-d)/3) (by grind)
    obtain ⟨M,k1⟩:=k ((a-d)/3) (by grind)
    have p:=(h1 (max N M) (by omega)).1
    have q:=(k1 (max N M) (by omega)).2
    grind
theorem Enc.self{s:Nat→Rat}{a b:Rat}(h:Enc s a b):a≤b:=h.meets h
theorem Enc.const(c:Rat):Enc (fun _=>c) c c:=fun e he=>⟨0,fun n _=>⟨by grind,by grind⟩⟩
def hf(k:Nat):Rat:=p2 (-(k:Int))
theorem hf_zero:hf 0=1:=p2_zero
theorem hf_succ(k:Nat):hf k=2*hf (k+1):=by
  unfold hf
  rw [show -(k:Int) = -((k+1:Nat):Int)+1 by omega,two_p2]
def conv(a b:Nat→Rat)(m:Nat):Rat:=sumTo (fun i=>a i*b (m-i)) (m+1)
def dpw(t:Rat):Nat→Rat
  | 0=>1
  | k+1=>t*dpw t k*((k+1:Nat):Rat)⁻¹
theorem nat_pos(k:Nat):(0:Rat)<((k+1:Nat):Rat):=by
  rw [←Rat.intCast_natCast];exact (cast_lt (a:=0)).2 (by omega)
theorem dpw_succ(t:Rat)(k:Nat):((k+1:Nat):Rat)*dpw t (k+1)=t*dpw t k:=by
  have h:=Rat.inv_mul_cancel ((k+1:Nat):Rat) (by have:=nat_pos k;grind)
  rw [dpw];grind
def alt(i:Nat):Rat:=if i % 2=0 then 1 else -1
def cosT(t:Rat)(i:Nat):Rat:=alt i*dpw t (2*i)
def sinT(t:Rat)(i:Nat):Rat:=alt i*dpw t (2*i+1)
def cosS(t:Rat)(n:Nat):Rat:=sumTo (cosT t) n
def sinS(t:Rat)(n:Nat):Rat:=sumTo (sinT t) n
theorem hf_le{i j:Nat}(h:i≤j):hf j≤hf i:=p2_le (by omega)
theorem dpw_zero(k:Nat):dpw 0 (k+1)=0:=by rw [dpw];simp
theorem cosS_zero(n:Nat):cosS 0 (n+1)=1:=by
  induction n with
  | zero=>show (0:Rat)+1*1=1;grind
  | succ n ih =>
    show cosS 0 (n+1)+cosT 0 (n+1)=1
    rw [ih,cosT,show 2*(n+1)=2*n+1+1 by omega,dpw_zero];grind
theorem Enc.mul{s t:Nat→Rat}{a b c d L H:Rat}(h:Enc s a b)(k:Enc t c d)(hc:∀ x y,(x=a∨x=b)→(y=c∨y=d)→L≤x*y∧x*y≤H):Enc (fun n=>s n*t n) L H:=fun e he=>by
  obtain ⟨M,hM⟩:∃ M:Rat,1≤M∧∀ x,(x=a∨x=b∨x=c∨x=d)→-M≤x∧x≤M:=by
    refine ⟨1+a*a+b*b+c*c+d*d,?_,fun x hx=>?_⟩
    · have h1:∀ z:Rat,0≤z*z:=fun z=>by
        rcases (show 0≤z∨0≤-z by grind) with q | q
        · exact rmN q q
        · have:=rmN q q;grind
      have:=h1 a;have:=h1 b;have:=h1 c;have:=h1 d;grind
    · have h1:∀ z:Rat,0≤z*z∧z≤1+z*z∧-z≤1+z*z:=fun z=>by
        have sq:∀ y:Rat,0≤y*y:=fun y=>by
          rcases (show 0≤y∨0≤-y by grind) with q | q
          · exact rmN q q
          · have:=rmN q q;grind
        have q0:=sq z
        have q1:=sq (z-1)
        have q2:=sq (z+1)
        refine ⟨q0,by grind,by grind⟩
      have:=h1 a;have:=h1 b;have:=h1 c;have:=h1 d
      rcases hx with rfl | rfl | rfl | rfl<;>constructor<;>grind
  have ip:0<(2*M+1)⁻¹:=Rat.inv_pos.2 (by grind)
  have im:=Rat.inv_mul_cancel (2*M+1) (by grind)
  obtain ⟨δ,d0,d1,d2⟩:∃ δ:Rat,0<δ∧δ≤1∧δ*(2*M+1)≤e:=by
    by_cases hq:e*(2*M+1)⁻¹≤1
    · exact ⟨e*(2*M+1)⁻¹,Rat.mul_pos he ip,hq,by rw [Rat.mul_assoc,im,Rat.mul_one];exact Rat.le_refl⟩
    · refine ⟨1,by grind,by grind,?_⟩
      have:=(Rat.mul_lt_mul_right (show 0<2*M+1 by grind)).2 (show 1<e*(2*M+1)⁻¹ by grind)
      rw [Rat.mul_assoc,im] at this;grind
  obtain ⟨N,h1⟩:=h δ d0
  obtain ⟨N',k1⟩:=k δ d0
  have near:∀ x y x' y',(x=a∨x=b)→(y=c∨y=d)→(x'=x-δ∨x'=x+δ)→(y'=y-δ∨y'=y+δ)→L-e≤x' * y'∧x' * y'≤H+e:=by
    intro x y x' y' hx hy hx' hy'
    have q:=hc x y hx hy
    have m1:=hM.2 x (by rcases hx with h | h<;>simp [h])
    have m2:=hM.2 y (by rcases hy with h | h<;>simp [h])
    have z1:=rmN (rlL d0) (show 0≤M-x by grind)
    have z2:=rmN (rlL d0) (show 0≤M+x by grind)
    have z3:=rmN (rlL d0) (show 0≤M-y by grind)
    have z4:=rmN (rlL d0) (show 0≤M+y by grind)
    have z5:=rmN (rlL d0) (show 0≤1-δ by grind)
    have z6:=rmN (rlL d0) (rlL d0)
    rcases hx' with rfl | rfl<;>rcases hy' with rfl | rfl<;>constructor<;>grind
  refine ⟨max N N',fun n hn=>?_⟩
  have p:=h1 n (by omega)
  have q:=k1 n (by omega)
  obtain ⟨x0,y0,l1,l2,l3⟩:=corner_le p.1 p.2 q.1 q.2
  obtain ⟨x1,y1,m1,m2,m3⟩:=corner_ge p.1 p.2 q.1 q.2
  have r1:L-e≤x0*y0:=by
    rcases l1 with rfl | rfl<;>rcases l2 with rfl | rfl
    · exact (near a c _ _ (.inl rfl) (.inl rfl) (.inl rfl) (.inl rfl)).1
    · exact (near a d _ _ (.inl rfl) (.inr rfl) (.inl rfl) (.inr rfl)).1
    · exact (near b c _ _ (.inr rfl) (.inl rfl) (.inr rfl) (.inl rfl)).1
    · exact (near b d _ _ (.inr rfl) (.inr rfl) (.inr rfl) (.inr rfl)).1
  have r2:x1*y1≤H+e:=by
    rcases m1 with rfl | rfl<;>rcases m2 with rfl | rfl
    · exact (near a c _ _ (.inl rfl) (.inl rfl) (.inl rfl) (.inl rfl)).2
    · exact (near a d _ _ (.inl rfl) (.inr rfl) (.inl rfl) (.inr rfl)).2
    · exact (near b c _ _ (.inr rfl) (.inl rfl) (.inr rfl) (.inl rfl)).2
    · exact (near b d _ _ (.inr rfl) (.inr rfl) (.inr rfl) (.inr rfl)).2
  exact ⟨by grind,by grind⟩
def tmf(f:Nat)(x:Rat):Nat→Rat
  | 0=>1
  | k+1=>tmf f x k*x*((f+2*k:Nat):Rat)⁻¹*((f+2*k+1:Nat):Rat)⁻¹
theorem dpw_even(t:Rat):∀ k,dpw t (2*k)=tmf 1 (t*t) k
  | 0=>rfl
  | k+1=>by
    rw [show 2*(k+1)=2*k+1+1 by omega,dpw,dpw,dpw_even t k,tmf,show 1+2*k=2*k+1 by omega];grind
theorem dpw_odd(t:Rat):∀ k,dpw t (2*k+1)=t*tmf 2 (t*t) k
  | 0=>by
    have h:=dpw_succ t 0
    have e:((0+1:Nat):Rat)=1:=rfl
    rw [e] at h
    show dpw t (0+1)=t*1
    have:dpw t 0=1:=rfl
    grind
  | k+1=>by
    rw [show 2*(k+1)+1=2*k+1+1+1 by omega,dpw,dpw,dpw_odd t k,tmf,show 2+2*k=2*k+1+1 by omega];grind
def altS(f:Nat)(x:Rat)(n:Nat):Rat:=sumTo (fun k=>alt k*tmf f x k) n
theorem cosS_alt(t:Rat)(n:Nat):cosS t n=altS 1 (t*t) n:=sumTo_congr fun i _=>by rw [cosT,dpw_even]
theorem sinS_alt(t:Rat)(n:Nat):sinS t n=t*altS 2 (t*t) n:=by
  rw [altS,←sumTo_mul];exact sumTo_congr fun i _=>by rw [sinT,dpw_odd];grind
def parS(b:Nat)(f:Nat)(x:Rat)(n:Nat):Rat:=sumTo (fun k=>if k % 2=b then tmf f x k else 0) n
theorem altS_par(f:Nat)(x:Rat)(n:Nat):altS f x n=parS 0 f x n-parS 1 f x n:=by
  induction n with
  | zero=>show (0:Rat)=0-0;grind
  | succ n ih =>
    have e1:altS f x (n+1)=altS f x n+alt n*tmf f x n:=rfl
    have e2:∀ b,parS b f x (n+1)=parS b f x n+(if n % 2=b then tmf f x n else 0):=fun b=>rfl
    rw [e1,e2,e2,ih]
    unfold alt
    rcases (show n % 2=0∨n % 2=1 by omega) with h | h
    · rw [if_pos h,if_pos h,if_neg (show ¬ n % 2=1 by omega)];grind
    · rw [if_neg (show ¬ n % 2=0 by omega),if_neg (show ¬ n % 2=0 by omega),if_pos h];grind
section
variable {f:Nat} {x:Rat} (hf1:1≤f) (x0:0≤x) (x1:x≤1)
include hf1 x0 x1
theorem tmf_step(k:Nat):0≤tmf f x k→0≤tmf f x (k+1)∧((f+2*k:Nat):Rat)*((f+2*k+1:Nat):Rat)*tmf f x (k+1)≤tmf f x k:=fun h=>by
  have p1:(0:Rat)<((f+2*k:Nat):Rat):=by rw [←Rat.intCast_natCast];exact (cast_lt (a:=0)).2 (by omega)
  have p2:=nat_pos (f+2*k)
  have i1:=Rat.inv_mul_cancel ((f+2*k:Nat):Rat) (by grind)
  have i2:=Rat.inv_mul_cancel ((f+2*k+1:Nat):Rat) (by grind)
  have q1:0≤((f+2*k:Nat):Rat)⁻¹:=rlL (Rat.inv_pos.2 p1)
  have q2:0≤((f+2*k+1:Nat):Rat)⁻¹:=rlL (Rat.inv_pos.2 p2)
  rw [tmf]
  generalize ((f+2*k:Nat):Rat)=u at *
  generalize ((f+2*k+1:Nat):Rat)=v at *
  refine ⟨rmN (rmN (rmN h x0) q1) q2,?_⟩
  have e:u*v*(tmf f x k*x*u⁻¹*v⁻¹)=tmf f x k*x*(u⁻¹*u)*(v⁻¹*v):=by grind
  rw [e,i1,i2]
  have:=rmL x1 h
  grind
theorem tmf_nonneg:∀ k,0≤tmf f x k
  | 0=>by show (0:Rat)≤1;grind
  | k+1=>(tmf_step hf1 x0 x1 k (tmf_nonneg k)).1
theorem tmf_twelve{k:Nat}(hk:1≤k):12*tmf f x (k+1)≤tmf f x k:=by
  have h:=tmf_step hf1 x0 x1 k (tmf_nonneg hf1 x0 x1 k)
  have a1:(3:Rat)≤((f+2*k:Nat):Rat):=by rw [←Rat.intCast_natCast];exact (cast_le (a:=3)).2 (by omega)
  have a2:(4:Rat)≤((f+2*k+1:Nat):Rat):=by rw [←Rat.intCast_natCast];exact (cast_le (a:=4)).2 (by omega)
  generalize ((f+2*k:Nat):Rat)=u at *
  generalize ((f+2*k+1:Nat):Rat)=v at *
  have b1:=rmR a1 (show 0≤v by grind)
  have b2:=rmR (show 12≤u*v by grind) h.1
  grind
theorem tmf_half(k:Nat):2*tmf f x (k+1)≤tmf f x k:=by
  have h:=tmf_step hf1 x0 x1 k (tmf_nonneg hf1 x0 x1 k)
  have a1:(1:Rat)≤((f+2*k:Nat):Rat):=by rw [←Rat.intCast_natCast];exact (cast_le (a:=1)).2 (by omega)
  have a2:(2:Rat)≤((f+2*k+1:Nat):Rat):=by rw [←Rat.intCast_natCast];exact (cast_le (a:=2)).2 (by omega)
  generalize ((f+2*k:Nat):Rat)=u at *
  generalize ((f+2*k+1:Nat):Rat)=v at *
  have b1:=rmR a1 (show 0≤v by grind)
  have b2:=rmR (show 2≤u*v by grind) h.1
  grind
theorem tmf_le:∀ k,tmf f x k≤hf k
  | 0=>by rw [hf_zero];exact Rat.le_refl
  | k+1=>by
    have h:=tmf_half hf1 x0 x1 k
    have ih:=tmf_le k
    have e:=hf_succ k
    grind
theorem par_tail(b:Nat){K:Nat}(hK:1≤K):∀ d,parS b f x K≤parS b f x (K+d)∧11*(parS b f x (K+d)-parS b f x K)≤12*(tmf f x K-tmf f x (K+d))
  | 0=>by constructor<;>grind
  | d+1=>by
    have ih:=par_tail b hK d
    have t0:=tmf_nonneg hf1 x0 x1 (K+d)
    have t1:=tmf_twelve hf1 x0 x1 (show 1≤K+d by omega)
    have e:parS b f x (K+(d+1))=parS b f x (K+d)+(if (K+d) % 2=b then tmf f x (K+d) else 0):=rfl
    rw [e,←Nat.add_assoc]
    split<;>constructor<;>grind
theorem altS_enc{K:Nat}{a b c d r:Rat}(hK:1≤K)(h1:a≤parS 0 f x K)(h2:parS 0 f x K≤b)(h3:c≤parS 1 f x K)(h4:parS 1 f x K≤d)(h5:12*tmf f x K≤11*r):Enc (altS f x) (a-(d+r)) (b+r-c):=fun e he=>⟨K,fun n hn=>by
  obtain ⟨m,rfl⟩:∃ m,n=K+m:=⟨n-K,by omega⟩
  have p:=par_tail hf1 x0 x1 0 hK m
  have q:=par_tail hf1 x0 x1 1 hK m
  have t:=tmf_nonneg hf1 x0 x1 (K+m)
  rw [altS_par]
  constructor<;>grind⟩
end
structure Fx where
  a:Int
  e:Int
def InF(w:Int)(x:Fx)(r:Rat):Prop:=0≤x.a∧0≤x.e∧(x.a:Rat)≤r*p2 w∧r*p2 w≤((x.a+x.e:Int):Rat)
def shortF(x:Fx)(d:Int):Fx:=⟨x.a/d,x.e/d+2⟩
def addF(x y:Fx):Fx:=⟨x.a+y.a,x.e+y.e⟩
def widerF(x:Fx)(n:Int):Fx:=⟨x.a,x.e+n⟩
def subF(x y:Fx):Fx:=⟨x.a-(y.a+y.e),x.e+y.e⟩
def upI(n:Int)(k:Nat):Int:=n/2^k+if n % 2^k=0 then 0 else 1
def mulF(x y:Fx)(w:Int):Fx:=⟨x.a*y.a/2^w.toNat,upI ((x.a+x.e)*(y.a+y.e)) w.toNat-x.a*y.a/2^w.toNat⟩
theorem upI_le{n:Int}{k:Nat}:upI n k*2^k<n+2^k∧n≤upI n k*2^k:=by
  have p:=two_pow_pos k
  have h:=Int.mul_ediv_add_emod n (2^k)
  have h1:=Int.emod_nonneg n (show (2:Int)^k≠0 by omega)
  have h2:=Int.emod_lt_of_pos n p
  unfold upI
  rw [Int.add_mul,Int.mul_comm (n/2^k)]
  split
  · rw [Int.zero_mul];omega
  · rw [Int.one_mul];omega
theorem InF.add{w:Int}{x y:Fx}{r s:Rat}(h:InF w x r)(k:InF w y s):InF w (addF x y) (r+s):=by
  obtain ⟨h1,h2,h3,h4⟩:=h
  obtain ⟨k1,k2,k3,k4⟩:=k
  refine ⟨show 0≤x.a+y.a by omega,show 0≤x.e+y.e by omega,?_,?_⟩
  · show ((x.a+y.a:Int):Rat)≤_
    rw [rcA];grind
  · show _≤((x.a+y.a+(x.e+y.e):Int):Rat)
    rw [show x.a+y.a+(x.e+y.e)=(x.a+x.e)+(y.a+y.e) by omega,rcA];grind
theorem InF.short{w:Int}{x:Fx}{r:Rat}(h:InF w x r){d:Int}(hd:0<d):InF w (shortF x d) (r*(d:Rat)⁻¹):=by
  obtain ⟨h1,h2,h3,h4⟩:=h
  have dp:=cast_ne hd
  have iv:=Rat.inv_mul_cancel (d:Rat) (by grind)
  have a1:=Int.mul_ediv_add_emod x.a d
  have a2:=Int.emod_nonneg x.a (show d≠0 by omega)
  have a3:=Int.emod_lt_of_pos x.a hd
  have b1:=Int.mul_ediv_add_emod x.e d
  have b2:=Int.emod_nonneg x.e (show d≠0 by omega)
  have b3:=Int.emod_lt_of_pos x.e hd
  have e1:r*(d:Rat)⁻¹*p2 w*(d:Rat)=r*p2 w:=by
    have:r*(d:Rat)⁻¹*p2 w*(d:Rat)=r*p2 w*((d:Rat)⁻¹*(d:Rat)):=by grind
    rw [this,iv,Rat.mul_one]
  refine ⟨show 0≤x.a/d from Int.ediv_nonneg h1 (by omega),show 0≤x.e/d+2 by have:=Int.ediv_nonneg h2 (show 0≤d by omega);omega,?_,?_⟩
  · show ((x.a/d:Int):Rat)≤_
    rw [←Rat.not_lt,←Rat.mul_lt_mul_right dp,e1,←rcM]
    have:((x.a/d*d:Int):Rat)≤(x.a:Rat):=cast_le.2 (by rw [Int.mul_comm];omega)
    grind
  · show _≤((x.a/d+(x.e/d+2):Int):Rat)
    rw [←Rat.not_lt,←Rat.mul_lt_mul_right dp,e1,←rcM]
    have:((x.a+x.e:Int):Rat)≤(((x.a/d+(x.e/d+2))*d:Int):Rat):=cast_le.2 (by
      have:(x.a/d+(x.e/d+2))*d=d*(x.a/d)+d*(x.e/d)+2*d:=by rw [Int.add_mul,Int.add_mul,Int.mul_comm (x.a/d),Int.mul_comm (x.e/d)];omega
      omega)
    grind
theorem InF.mul{w:Int}{x y:Fx}{r s:Rat}(hw:0≤w)(h:InF w x r)(k:InF w y s):InF w (mulF x y w) (r*s):=by
  obtain ⟨h1,h2,h3,h4⟩:=h
  obtain ⟨k1,k2,k3,k4⟩:=k
  have pp:=two_pow_pos w.toNat
  have pw:p2 w=((2^w.toNat:Int):Rat):=p2_toNat hw
  have pr:=p2_pos w
  have u:=upI_le (n:=(x.a+x.e)*(y.a+y.e)) (k:=w.toNat)
  have d1:=Int.mul_ediv_add_emod (x.a*y.a) (2^w.toNat)
  have d2:=Int.emod_nonneg (x.a*y.a) (show (2:Int)^w.toNat≠0 by omega)
  have hle:x.a*y.a≤(x.a+x.e)*(y.a+y.e):=Int.mul_le_mul (by omega) (by omega) k1 (by omega)
  have q0:0≤x.a*y.a:=Int.mul_nonneg h1 k1
  have lo:x.a*y.a/2^w.toNat≤upI ((x.a+x.e)*(y.a+y.e)) w.toNat:=by
    have:x.a*y.a/2^w.toNat*2^w.toNat≤upI ((x.a+x.e)*(y.a+y.e)) w.toNat*2^w.toNat:=by rw [Int.mul_comm];omega
    exact Int.le_of_mul_le_mul_right this pp
  have a0:(0:Rat)≤(x.a:Rat):=cast_le.2 h1
  have b0:(0:Rat)≤(y.a:Rat):=cast_le.2 k1
  have m1:=rmL k3 a0
  have m2:=rmR h3 (show 0≤s*p2 w by grind)
  have m3:=rmL k4 (show 0≤r*p2 w by grind)
  have m4:=rmR h4 (show (0:Rat)≤((y.a+y.e:Int):Rat) by grind)
  refine ⟨Int.ediv_nonneg q0 (by omega),show 0≤upI ((x.a+x.e)*(y.a+y.e)) w.toNat-x.a*y.a/2^w.toNat by omega,?_,?_⟩
  · show ((x.a*y.a/2^w.toNat:Int):Rat)≤_
    rw [←mul_p2_le w]
    have e:((x.a*y.a/2^w.toNat:Int):Rat)*p2 w=((x.a*y.a/2^w.toNat*2^w.toNat:Int):Rat):=by rw [pw,rcM]
    have g:((x.a*y.a/2^w.toNat*2^w.toNat:Int):Rat)≤((x.a*y.a:Int):Rat):=cast_le.2 (by rw [Int.mul_comm];omega)
    rw [rcM x.a] at g
    rw [e];grind
  · show _≤((x.a*y.a/2^w.toNat+(upI ((x.a+x.e)*(y.a+y.e)) w.toNat-x.a*y.a/2^w.toNat):Int):Rat)
    rw [show x.a*y.a/2^w.toNat+(upI ((x.a+x.e)*(y.a+y.e)) w.toNat-x.a*y.a/2^w.toNat)=upI ((x.a+x.e)*(y.a+y.e)) w.toNat by omega,←mul_p2_le w]
    have e:((upI ((x.a+x.e)*(y.a+y.e)) w.toNat:Int):Rat)*p2 w=((upI ((x.a+x.e)*(y.a+y.e)) w.toNat*2^w.toNat:Int):Rat):=by rw [pw,rcM]
    have g:(((x.a+x.e)*(y.a+y.e):Int):Rat)≤((upI ((x.a+x.e)*(y.a+y.e)) w.toNat*2^w.toNat:Int):Rat):=cast_le.2 u.2
    rw [rcM (x.a+x.e)] at g
    rw [e];grind
theorem mulF_e{w:Int}{x y:Fx}(ex:0≤x.e)(ey:0≤y.e)(ax:x.a≤2^w.toNat)(ay:y.a≤2^w.toNat)(hs:x.e*y.e≤2^w.toNat):(mulF x y w).e≤x.e+y.e+3:=by
  have pp:=two_pow_pos w.toNat
  have u:=(upI_le (n:=(x.a+x.e)*(y.a+y.e)) (k:=w.toNat)).1
  have d1:=Int.mul_ediv_add_emod (x.a*y.a) (2^w.toNat)
  have d3:=Int.emod_lt_of_pos (x.a*y.a) pp
  have m1:=imR ax ey
  have m2:=imL ay ex
  have e1:(x.a+x.e)*(y.a+y.e)=x.a*y.a+x.a*y.e+x.e*y.a+x.e*y.e:=by rw [Int.add_mul,Int.mul_add,Int.mul_add];omega
  have key:(upI ((x.a+x.e)*(y.a+y.e)) w.toNat-x.a*y.a/2^w.toNat)*2^w.toNat<(x.e+y.e+3)*2^w.toNat:=by
    generalize upI ((x.a+x.e)*(y.a+y.e)) w.toNat=U at *
    generalize x.a*y.a/2^w.toNat=Z at *
    generalize (2:Int)^w.toNat=P at *
    have t1:(U-Z)*P=U*P-P*Z:=by rw [Int.sub_mul,Int.mul_comm Z]
    have t2:(x.e+y.e+3)*P=x.e*P+P*y.e+3*P:=by rw [Int.add_mul,Int.add_mul,Int.mul_comm y.e]
    omega
  have:=Int.lt_of_mul_lt_mul_right key (by omega)
  exact Int.le_of_lt this
def tyFx:TyRow:=⟨91,2,true,[.words true [],.int .u64 0],.struct [(0,1,false),(1,1,false)]⟩
def tyF9:TyRow:=⟨76,2,true,[.words true [],.int .u64 0],.struct [(0,1,false),(1,1,false)]⟩
def tys3:List TyRow:=[tyFx,tyF9] ++ tys
theorem tys3_ok:RowsOk Tryz.prog tys3:=⟨by kernel_rfl,by kernel_rfl,tys_ok⟩
def Fw.f(x:Fw):Fx:=⟨val x.xs,x.e⟩
def fw(z:Fx):Fw:=⟨ws z.a,z.e⟩
abbrev fxT(z:Fx):Tv:=.sv (.agg (fwL false (fw z)))
theorem fw_f{z:Fx}(h:0≤z.a):(fw z).f=z:=by
  show (⟨val (ws z.a),z.e⟩:Fx)=z
  rw [val_ws h]
def Fw.Ok(x:Fw):Prop:=x.xs.length≤1073741824∧0≤x.e∧x.e≤1099511627776
def Fx.Ok(z:Fx):Prop:=0≤z.a∧blen z.a≤68719476736∧0≤z.e∧z.e≤1099511627776
theorem Fx.Ok.w{z:Fx}(h:z.Ok):(fw z).Ok:=⟨ws_blen h.1 (by have:=h.2.1;omega),h.2.2⟩
theorem wrap_w{n:Int}(h:Word n):IntKind.u64.wrap n=n:=by rw [wrap_lo];exact Int.emod_eq_of_lt h.1 h.2
def seOne:Spec:=specK [.i .i64] fun (q:Int)=>(some (0≤q∧q≤16777216),fxT ⟨2^q.toNat,0⟩)
theorem seOne_vc(q:Int)(Q:Tv→Prop):execF ⟨tys3,sLimbs⟩ (fun _=>none) 0 Tryz.f90 [.one (.int .i64 q)] Q=(Word 1∧((0:Int)≤q∧q≤1099511627776∧List.length (ws (val (ws 1)))≤8796093022208)∧Q (Tv.sv (Sv.agg [At.words true (ws (val (ws 1)*2^Int.toNat q)),At.int .u64 0]))):=by kernel_rfl
theorem seOne_ok:SpecOk Tryz.prog 90 seOne :=
  specKW_ok (envOk tys3_ok sLimbs_ok) mixed Tryz.func90 rfl (by decide) (by decide) fun (q:Int) _ hp=>⟨fun _=>none,0,by
    obtain ⟨h0,h1⟩:0≤q∧q≤16777216:=hp
    refine (seOne_vc q _).mpr ?_
    rw [val_ws_one,Int.one_mul]
    exact ⟨word_one,⟨h0,by omega,by simp [ws_one]⟩,.inr rfl⟩⟩
def seAdd:Spec:=specK [.fx,.fx] fun (x:Fw) (y:Fw)=>(some (x.Ok∧y.Ok),fxT (addF x.f y.f))
theorem seAdd_vc(x y:Fw)(Q:Tv→Prop):execF ⟨tys3,sLimbs⟩ (fun _=>none) 0 Tryz.f123 [.agg (fwL false x),.agg (fwL false y)] Q=((List.length x.xs≤17592186044414∧List.length y.xs≤17592186044414)∧true=true∧Q (Tv.sv (Sv.agg [At.words true (ws (val x.xs+val y.xs)),At.int .u64 (IntKind.wrap IntKind.u64 (x.e+y.e))]))):=by kernel_rfl
theorem seAdd_ok:SpecOk Tryz.prog 123 seAdd :=
  specKW_ok (envOk tys3_ok sLimbs_ok) mixed Tryz.func123 rfl (by decide) (by decide) fun (x:Fw) _ (y:Fw) _ hp=>⟨fun _=>none,0,by
    obtain ⟨⟨a1,a2,a3⟩,b1,b2,b3⟩:x.Ok∧y.Ok:=hp
    refine (seAdd_vc x y _).mpr ?_
    rw [wrap_w ⟨by omega,by omega⟩]
    exact ⟨⟨by omega,by omega⟩,rfl,.inr rfl⟩⟩
def seHigh:Spec:=specK [.fx] fun (x:Fw)=>(some x.Ok,wT (ws (x.f.a+x.f.e)))
theorem seHigh_vc(x:Fw)(Q:Tv→Prop):execF ⟨tys3,sLimbs⟩ (fun _=>none) 0 Tryz.f124 [.agg (fwL false x)] Q=(Word x.e∧(List.length x.xs≤17592186044414∧List.length (ws x.e)≤17592186044414)∧true=true∧Q (Tv.sv (Sv.one (At.words true (ws (val x.xs+val (ws x.e))))))):=by kernel_rfl
theorem ws_small{n:Int}(h:n≤1099511627776):(ws n).length≤1:=by
  by_cases h0:0≤n
  · exact ws_length_le (by have:wpow 1=18446744073709551616:=rfl;omega)
  · rw [ws_nonpos (by omega)];simp
theorem seHigh_ok:SpecOk Tryz.prog 124 seHigh :=
  specK_ok (envOk tys3_ok sLimbs_ok) mixed Tryz.func124 rfl (by decide) (by decide) fun (x:Fw) _ hp=>⟨fun _=>none,0,by
    obtain ⟨a1,a2,a3⟩:x.Ok:=hp
    refine (seHigh_vc x _).mpr ?_
    have:=ws_small a3
    rw [val_ws a2]
    exact ⟨⟨a2,by omega⟩,⟨by omega,by omega⟩,rfl,rfl⟩⟩
def seWid:Spec:=specK [.fx,.i .u64] fun (x:Fw) (n:Int)=>(some (x.Ok∧0≤n∧n≤1099511627776∧x.xs=ws (val x.xs)),fxT (widerF x.f n))
theorem seWid_vc(x:Fw)(n:Int)(Q:Tv→Prop):execF ⟨tys3,sLimbs⟩ (fun _=>none) 0 Tryz.f94 [.agg (fwL false x),.one (.int .u64 n)] Q=(Q (Tv.sv (Sv.agg [At.words false x.xs,At.int .u64 (IntKind.wrap IntKind.u64 (x.e+n))]))):=by kernel_rfl
theorem seWid_ok:SpecOk Tryz.prog 94 seWid :=
  specKW_ok (envOk tys3_ok sLimbs_ok) mixed Tryz.func94 rfl (by decide) (by decide) fun (x:Fw) _ (n:Int) _ hp=>⟨fun _=>none,0,by
    obtain ⟨⟨a1,a2,a3⟩,b1,b2,b3⟩:x.Ok∧0≤n∧n≤1099511627776∧x.xs=ws (val x.xs):=hp
    refine (seWid_vc x n _).mpr ?_
    rw [wrap_w ⟨by omega,by omega⟩,b3]
    exact .inl rfl⟩
def btwF(a b:Int):Fx:=⟨a,b-a⟩
theorem nth_ws0{n:Int}(h0:0<n)(h:n<18446744073709551616):nth (ws n) 0=n:=by
  rw [ws_pos h0,ws_nonpos (by omega)];show n % 18446744073709551616=n;omega
def seBtw:Spec:=specK [.w,.w] fun (xs:List Int) (ys:List Int)=>(some (val xs≤val ys∧val ys-val xs≤1099511627776∧xs=ws (val xs)),fxT (btwF (val xs) (val ys)))
theorem seBtw_vc(xs ys:List Int)(Q:Tv→Prop):execF ⟨tys3,sLimbs⟩ (fun _=>none) 0 Tryz.f121 [.one (.words false xs),.one (.words false ys)] Q=(val xs≤val ys∧br (ltI 0 (↑(List.length (ws (val ys-val xs))):Int)) (((0:Int)≤0∧(0:Int)<(↑(List.length (ws (val ys-val xs))):Int))∧Q (Tv.sv (Sv.agg [At.words false xs,At.int .u64 (nth (ws (val ys-val xs)) 0)]))) (Q (Tv.sv (Sv.agg [At.words false xs,At.int .u64 0])))):=by kernel_rfl
theorem seBtw_ok:SpecOk Tryz.prog 121 seBtw :=
  specKW_ok (envOk tys3_ok sLimbs_ok) mixed Tryz.func121 rfl (by decide) (by decide) fun (xs:List Int) _ (ys:List Int) _ hp=>⟨fun _=>none,0,by
    obtain ⟨h1,h2,h3⟩:val xs≤val ys∧val ys-val xs≤1099511627776∧xs=ws (val xs):=hp
    show execF _ _ _ _ _ (fun t=>t=fxT (btwF (val xs) (val ys))∨fgT t=fxT (btwF (val xs) (val ys)))
    refine (seBtw_vc xs ys _).mpr ⟨h1,?_⟩
    rw [len_pos (by omega)]
    refine br_intro (fun h=>⟨⟨by omega,?_⟩,.inl ?_⟩) fun h=>.inl ?_
    · have:=(len_pos (n:=val ys-val xs) (by omega)).trans h;exact ltI_true.1 this
    · rw [nth_ws0 (by simp at h;omega) (by omega)]
      show _=Tv.sv (.agg [.words false (ws (val xs)),.int .u64 (val ys-val xs)])
      rw [←h3]
    · have h:val ys-val xs=0:=by simpa using h
      show _=Tv.sv (.agg [.words false (ws (val xs)),.int .u64 (val ys-val xs)])
      rw [←h3,h]⟩
def seWhole:Spec:=specK [.d] fun (d:Dx)=>(some (0≤d.e∧d.Sm 68719476736),wT (ws (d.m*2^d.e.toNat)))
theorem seWhole_vc(d:Dx)(Q:Tv→Prop):execF ⟨tys3,sLimbs⟩ (fun _=>none) 0 Tryz.f122 [.agg (dyL false d)] Q=(((0:Int)≤d.e∧d.e≤1099511627776∧List.length (ws (val d.xs))≤8796093022208)∧Q (Tv.sv (Sv.one (At.words true (ws (val d.xs*2^Int.toNat d.e)))))):=by kernel_rfl
theorem seWhole_ok:SpecOk Tryz.prog 122 seWhole :=
  specK_ok (envOk tys3_ok sLimbs_ok) mixed Tryz.func122 rfl (by decide) (by decide) fun (d:Dx) hd hp=>⟨fun _=>none,0,by
    obtain ⟨h0,h1,h2,h3⟩:0≤d.e∧d.Sm 68719476736:=hp
    unfold Dx.m at h1
    exact (seWhole_vc d _).mpr ⟨⟨h0,by omega,ws_blen (WfW.val0 hd) (by omega)⟩,rfl⟩⟩
def seShort:Spec:=specK [.fx,.i .u64] fun (x:Fw) (d:Int)=>(some (0≤x.e∧x.e≤1099511627776∧0<d∧d<18446744073709551616),fxT (shortF x.f d))
theorem seShort_vc(x:Fw)(d:Int)(Q:Tv→Prop):execF ⟨tys3,sLimbs⟩ (fun _=>none) 0 Tryz.f93 [.agg (fwL false x),.one (.int .u64 d)] Q=((Word d∧(0:Int)<d)∧d≠0∧Q (Tv.sv (Sv.agg [At.words true (ws (val x.xs/d)),At.int .u64 (IntKind.wrap IntKind.u64 (IntKind.wrap IntKind.u64 (Int.tdiv x.e d)+2))]))):=by kernel_rfl
theorem seShort_ok:SpecOk Tryz.prog 93 seShort :=
  specKW_ok (envOk tys3_ok sLimbs_ok) mixed Tryz.func93 rfl (by decide) (by decide) fun (x:Fw) _ (d:Int) _ hp=>⟨fun _=>none,0,by
    obtain ⟨h0,h1,h2,h3⟩:0≤x.e∧x.e≤1099511627776∧0<d∧d<18446744073709551616:=hp
    have q0:=Int.ediv_nonneg h0 (show 0≤d by omega)
    have q1:=Int.ediv_le_self d h0
    refine (seShort_vc x d _).mpr ?_
    rw [Int.tdiv_eq_ediv_of_nonneg h0,wrap_w (n:=x.e/d) ⟨q0,by omega⟩,wrap_w ⟨by omega,by omega⟩]
    exact ⟨⟨⟨by omega,h3⟩,h2⟩,by omega,.inr rfl⟩⟩
def sSer1:List (FuncId×Spec):=[(90,seOne),(123,seAdd),(124,seHigh),(94,seWid),(121,seBtw),(122,seWhole),(93,seShort)] ++ sLimbs
theorem sSer1_ok:SpecsOk Tryz.prog sSer1:=⟨seOne_ok,seAdd_ok,seHigh_ok,seWid_ok,seBtw_ok,seWhole_ok,seShort_ok,sLimbs_ok⟩
def floorD(d:Dx):Dx:=if 0≤(oneD d).e then oneD d else mkD (oneD d).neg ((oneD d).m/2^(-(oneD d).e).toNat+if (lostB (oneD d).m (-(oneD d).e).toNat && (oneD d).neg)=true then 1 else 0) 0
def rFloor:Spec:=specK [.d] fun (d:Dx)=>(some (d.Sm 68719476736),dT (floorD d))
theorem rFloor_vc(d:Dx)(Q:Tv→Prop):execF ⟨tys,sRaw2⟩ (fun _=>none) 0 Tryz.f118 [.agg (dyL false d)] Q=(((-4611686018427387904:Int)≤d.e∧d.e≤4611686018427387904)∧br (leI 0 (oneD d).e) (Q (Tv.sv (Sv.agg (dyL true (oneD d))))) (inR ((0:Int)-(oneD d).e)∧((0:Int)≤0-(oneD d).e∧(0:Int)-(oneD d).e≤9007199254740992)∧br (lostB (val (oneD d).xs) (Int.toNat ((0:Int)-(oneD d).e))) (br (oneD d).neg (Word 1∧(List.length (ws (val (oneD d).xs/2^Int.toNat ((0:Int)-(oneD d).e)))≤17592186044414∧List.length (ws 1)≤17592186044414)∧((-4611686018427387904:Int)≤0∧(0:Int)≤4611686018427387904)∧Q (Tv.sv (Sv.agg (dyL true (mkD (oneD d).neg (val (ws (val (ws (val (oneD d).xs/2^Int.toNat ((0:Int)-(oneD d).e)))+val (ws 1)))) 0))))) (((-4611686018427387904:Int)≤0∧(0:Int)≤4611686018427387904)∧Q (Tv.sv (Sv.agg (dyL true (mkD (oneD d).neg (val (ws (val (oneD d).xs/2^Int.toNat ((0:Int)-(oneD d).e)))) 0)))))) (((-4611686018427387904:Int)≤0∧(0:Int)≤4611686018427387904)∧Q (Tv.sv (Sv.agg (dyL true (mkD (oneD d).neg (val (ws (val (oneD d).xs/2^Int.toNat ((0:Int)-(oneD d).e)))) 0))))))):=by kernel_rfl
theorem rFloor_ok:SpecOk Tryz.prog 118 rFloor :=
  specK_ok (envOk tys_ok sRaw2_ok) mixed Tryz.func118 rfl (by decide) (by decide) fun (d:Dx) hd hp=>⟨fun _=>none,0,by
    obtain ⟨s1,s2,s3⟩:d.Sm 68719476736:=hp
    have m1:=one_m0 (Dx.Wf.m0 hd)
    obtain ⟨z1,z2,z3⟩:=one_sm (Dx.Wf.m0 hd) ⟨s1,s2,s3⟩
    have p0:=two_pow_pos (-(oneD d).e).toNat
    have hq:0≤(oneD d).m/2^(-(oneD d).e).toNat:=Int.ediv_nonneg m1 (by omega)
    have hql:(ws ((oneD d).m/2^(-(oneD d).e).toNat)).length≤17592186044414:=ws_blen hq (by
      have:=blen_mono (m:=(oneD d).m/2^(-(oneD d).e).toNat) (n:=(oneD d).m) (Int.ediv_le_self _ m1);omega)
    show execF _ _ _ _ _ (fun t=>t=dT (floorD d))
    refine (rFloor_vc d _).mpr ⟨⟨by omega,by omega⟩,br_intro (fun h=>?_) fun h=>?_⟩
    · rw [floorD,if_pos (leI_true.1 h)]
    · have h:=leI_false.1 h
      rw [floorD,if_neg h,Int.zero_sub,val_ws_one]
      unfold Dx.m at hq hql ⊢
      rw [val_ws hq]
      refine ⟨⟨by omega,by omega⟩,⟨by omega,by omega⟩,br_intro (fun h1=>br_intro (fun h2=>?_) fun h2=>?_) fun h1=>?_⟩
      · rw [h1,h2,val_ws (by omega)]
        exact ⟨word_one,⟨by omega,by simp [ws_one]⟩,⟨by omega,by omega⟩,rfl⟩
      · rw [h1,h2]
        exact ⟨⟨by omega,by omega⟩,by rw [if_neg (by simp),Int.add_zero]⟩
      · rw [h1]
        exact ⟨⟨by omega,by omega⟩,by rw [if_neg (by simp),Int.add_zero]⟩⟩
def rInt:Spec:=specK [.i .i64] fun (n:Int)=>(some (inR n),dT (mkS n 0))
theorem rInt_vc(n:Int)(Q:Tv→Prop):execF ⟨tys,sRaw2⟩ (fun _=>none) 0 Tryz.f49 [.one (.int .i64 n)] Q=(br (ltI n 0) (Word (IntKind.wrap IntKind.u64 ((0:Int)-IntKind.wrap IntKind.u64 n))∧((-4611686018427387904:Int)≤0∧(0:Int)≤4611686018427387904)∧Q (Tv.sv (Sv.agg (dyL true (mkD (ltI n 0) (val (ws (IntKind.wrap IntKind.u64 ((0:Int)-IntKind.wrap IntKind.u64 n)))) 0))))) (Word (IntKind.wrap IntKind.u64 n)∧((-4611686018427387904:Int)≤0∧(0:Int)≤4611686018427387904)∧Q (Tv.sv (Sv.agg (dyL true (mkD (ltI n 0) (val (ws (IntKind.wrap IntKind.u64 n))) 0)))))):=by kernel_rfl
theorem rInt_ok:SpecOk Tryz.prog 49 rInt :=
  specK_ok (envOk tys_ok sRaw2_ok) mixed Tryz.func49 rfl (by decide) (by decide) fun (n:Int) _ hp=>⟨fun _=>none,0,by
    obtain ⟨h0,h1⟩:inR n:=hp
    have w1:IntKind.u64.wrap n=n % 18446744073709551616:=wrap_lo n
    have w2:IntKind.u64.wrap (0-IntKind.u64.wrap n)=(0-n % 18446744073709551616) % 18446744073709551616:=by rw [w1];exact wrap_lo _
    show execF _ _ _ _ _ (fun t=>t=dT (mkS n 0))
    refine (rInt_vc n _).mpr (br_intro (fun h=>?_) fun h=>?_)
    · have h':=ltI_true.1 h
      rw [w2,mkS,show (0-n % 18446744073709551616) % 18446744073709551616=(n.natAbs:Int) by omega,val_ws (by omega)]
      exact ⟨⟨by omega,by omega⟩,⟨by omega,by omega⟩,by rw [h,decide_eq_true h']⟩
    · have h':=ltI_false.1 h
      rw [w1,mkS,show n % 18446744073709551616=(n.natAbs:Int) by omega,val_ws (by omega)]
      exact ⟨⟨by omega,by omega⟩,⟨by omega,by omega⟩,by rw [h,decide_eq_false h']⟩⟩
theorem Fw.f_a(x:Fw):x.f.a=val x.xs:=rfl
theorem Fw.f_e(x:Fw):x.f.e=x.e:=rfl
def seSub:Spec:=specK [.fx,.fx] fun (x:Fw) (y:Fw)=>(some (x.Ok∧y.Ok∧y.f.a+y.f.e≤x.f.a),fxT (subF x.f y.f))
theorem seSub_vc(x y:Fw)(Q:Tv→Prop):execF ⟨tys3,sSer1⟩ (fun _=>none) 0 Tryz.f95 [.agg (fwL false x),.agg (fwL false y)] Q=(Fw.Ok y∧val (ws ((Fw.f y).a+(Fw.f y).e))≤val x.xs∧true=true∧Q (Tv.sv (Sv.agg [At.words true (ws (val x.xs-val (ws ((Fw.f y).a+(Fw.f y).e)))),At.int .u64 (IntKind.wrap IntKind.u64 (x.e+y.e))]))):=by kernel_rfl
theorem seSub_ok:SpecOk Tryz.prog 95 seSub :=
  specKW_ok (envOk tys3_ok sSer1_ok) mixed Tryz.func95 rfl (by decide) (by decide) fun (x:Fw) _ (y:Fw) hy hp=>⟨fun _=>none,0,by
    obtain ⟨⟨a1,a2,a3⟩,yo,h⟩:x.Ok∧y.Ok∧y.f.a+y.f.e≤x.f.a:=hp
    have y0:=WfW.val0 (xs:=y.xs) hy
    have yo2:=yo.2
    refine (seSub_vc x y _).mpr ?_
    rw [val_ws (by rw [y.f_a,y.f_e];omega),wrap_w ⟨by omega,by omega⟩]
    exact ⟨yo,h,rfl,.inr rfl⟩⟩
def seMul:Spec:=specK [.fx,.fx,.i .i64] fun (x:Fw) (y:Fw) (q:Int)=>(some (x.Ok∧y.Ok∧0≤q∧q≤16777216∧(mulF x.f y.f q).e≤1099511627776),fxT (mulF x.f y.f q))
theorem upI_lost(n:Int)(k:Nat):upI n k=n/2^k+if lostB n k=true then 1 else 0:=by
  unfold upI lostB
  by_cases h:n % 2^k=0
  · rw [if_pos h,if_neg (by simpa using h)]
  · rw [if_neg h,if_pos (by simpa using h)]
theorem mulF_lo{a b c d:Int}{k:Nat}(ha:0≤a)(hc:0≤c)(hb:0≤b)(hd:0≤d):a*c/2^k≤upI ((a+b)*(c+d)) k:=by
  have p:=two_pow_pos k
  have h1:a*c≤(a+b)*(c+d):=Int.mul_le_mul (by omega) (by omega) hc (by omega)
  have h2:=Int.ediv_le_ediv p h1
  unfold upI;split<;>omega
theorem seMul_vc(x y:Fw)(q:Int)(Q:Tv→Prop):execF ⟨tys3,sSer1⟩ (fun _=>none) 0 Tryz.f92 [.agg (fwL false x),.agg (fwL false y),.one (.int .i64 q)] Q=(List.length (ws (val x.xs))+List.length (ws (val y.xs))≤17592186044415∧((0:Int)≤q∧q≤9007199254740992)∧Fw.Ok x∧Fw.Ok y∧List.length (ws (val (ws ((Fw.f x).a+(Fw.f x).e))))+List.length (ws (val (ws ((Fw.f y).a+(Fw.f y).e))))≤17592186044415∧((0:Int)≤q∧q≤9007199254740992)∧true=true∧br (lostB (val (ws (val (ws ((Fw.f x).a+(Fw.f x).e))*val (ws ((Fw.f y).a+(Fw.f y).e))))) (Int.toNat q)) (Word 1∧(List.length (ws (val (ws (val (ws ((Fw.f x).a+(Fw.f x).e))*val (ws ((Fw.f y).a+(Fw.f y).e))))/2^Int.toNat q))≤17592186044414∧List.length (ws 1)≤17592186044414)∧(val (ws (val (ws (val x.xs*val y.xs))/2^Int.toNat q))≤val (ws (val (ws (val (ws (val (ws ((Fw.f x).a+(Fw.f x).e))*val (ws ((Fw.f y).a+(Fw.f y).e))))/2^Int.toNat q))+val (ws 1)))∧val (ws (val (ws (val (ws (val (ws ((Fw.f x).a+(Fw.f x).e))*val (ws ((Fw.f y).a+(Fw.f y).e))))/2^Int.toNat q))+val (ws 1)))-val (ws (val (ws (val x.xs*val y.xs))/2^Int.toNat q))≤1099511627776∧ws (val (ws (val x.xs*val y.xs))/2^Int.toNat q)=ws (val (ws (val (ws (val x.xs*val y.xs))/2^Int.toNat q))))∧Q (Tv.sv (Sv.agg (fwL false (fw (btwF (val (ws (val (ws (val x.xs*val y.xs))/2^Int.toNat q))) (val (ws (val (ws (val (ws (val (ws ((Fw.f x).a+(Fw.f x).e))*val (ws ((Fw.f y).a+(Fw.f y).e))))/2^Int.toNat q))+val (ws 1)))))))))) ((val (ws (val (ws (val x.xs*val y.xs))/2^Int.toNat q))≤val (ws (val (ws (val (ws ((Fw.f x).a+(Fw.f x).e))*val (ws ((Fw.f y).a+(Fw.f y).e))))/2^Int.toNat q))∧val (ws (val (ws (val (ws ((Fw.f x).a+(Fw.f x).e))*val (ws ((Fw.f y).a+(Fw.f y).e))))/2^Int.toNat q))-val (ws (val (ws (val x.xs*val y.xs))/2^Int.toNat q))≤1099511627776∧ws (val (ws (val x.xs*val y.xs))/2^Int.toNat q)=ws (val (ws (val (ws (val x.xs*val y.xs))/2^Int.toNat q))))∧Q (Tv.sv (Sv.agg (fwL false (fw (btwF (val (ws (val (ws (val x.xs*val y.xs))/2^Int.toNat q))) (val (ws (val (ws (val (ws ((Fw.f x).a+(Fw.f x).e))*val (ws ((Fw.f y).a+(Fw.f y).e))))/2^Int.toNat q)))))))))):=by kernel_rfl
theorem Fw.Ok.len{x:Fw}(h:x.Ok)(hw:WfW x.xs):0≤x.f.a∧0≤x.f.a+x.f.e∧(ws x.f.a).length≤1073741824∧(ws (x.f.a+x.f.e)).length≤1073741825:=by
  have h0:=WfW.val0 hw
  obtain ⟨h1,h2,h3⟩:=h
  have h4:=small_len hw
  refine ⟨h0,by rw [x.f_a,x.f_e];omega,by rw [x.f_a];omega,?_⟩
  refine ws_length_le ?_
  have a1:=lt_wpow_ws h0
  have a2:=wpow_le (show (ws (val x.xs)).length≤1073741824 by omega)
  rw [wpow_succ,x.f_a,x.f_e]
  have:=wpow_pos 1073741824
  generalize wpow 1073741824=W at *
  omega
theorem ws_len_mul{m n:Int}(hm:0≤m)(hn:0≤n):(ws (m*n)).length≤(ws m).length+(ws n).length:=by
  refine ws_length_le ?_
  have a:=lt_wpow_ws hm
  rw [wpow_add]
  by_cases h:0<n
  · have b:=lt_wpow_ws (n:=n) (by omega)
    exact Int.lt_of_lt_of_le (Int.mul_lt_mul_of_pos_right a h) (imL (by omega) (by have:=wpow_pos (ws m).length;omega))
  · rw [show n=0 by omega,Int.mul_zero];exact Int.mul_pos (wpow_pos _) (wpow_pos _)
theorem seMul_ok:SpecOk Tryz.prog 92 seMul :=
  specKW_ok (envOk tys3_ok sSer1_ok) mixed Tryz.func92 rfl (by decide) (by decide) fun (x:Fw) hx (y:Fw) hy (q:Int) _ hp=>⟨fun _=>none,0,by
    obtain ⟨xo,yo,q0,q1,he⟩:x.Ok∧y.Ok∧0≤q∧q≤16777216∧(mulF x.f y.f q).e≤1099511627776:=hp
    obtain ⟨x1,x2,x3,x4⟩:=xo.len hx
    obtain ⟨y1,y2,y3,y4⟩:=yo.len hy
    have m1:=Int.mul_nonneg x1 y1
    have m2:=Int.mul_nonneg x2 y2
    have p0:=two_pow_pos q.toNat
    have d1:=Int.ediv_nonneg m1 (show (0:Int)≤2^q.toNat by omega)
    have d2:=Int.ediv_nonneg m2 (show (0:Int)≤2^q.toNat by omega)
    have hlo:=mulF_lo (k:=q.toNat) x1 y1 (b:=x.f.e) (d:=y.f.e) xo.2.1 yo.2.1
    have hlen:(ws ((x.f.a+x.f.e)*(y.f.a+y.f.e)/2^q.toNat)).length≤17592186044414:=by
      have h2:=ws_len_mul x2 y2
      have h1:(ws ((x.f.a+x.f.e)*(y.f.a+y.f.e)/2^q.toNat)).length≤(ws ((x.f.a+x.f.e)*(y.f.a+y.f.e))).length :=
        ws_length_le (Int.lt_of_le_of_lt (Int.ediv_le_self _ m2) (lt_wpow_ws m2))
      omega
    have he':upI ((x.f.a+x.f.e)*(y.f.a+y.f.e)) q.toNat-x.f.a*y.f.a/2^q.toNat≤1099511627776:=he
    show execF _ _ _ _ _ (fun t=>t=fxT (mulF x.f y.f q)∨fgT t=fxT (mulF x.f y.f q))
    refine (seMul_vc x y q _).mpr ?_
    rw [←x.f_a,←y.f_a,val_ws x2,val_ws y2,val_ws m2,val_ws m1,val_ws d1,val_ws d2,val_ws_one]
    have key:=upI_lost ((x.f.a+x.f.e)*(y.f.a+y.f.e)) q.toNat
    have goal:fxT (mulF x.f y.f q)=fxT (btwF (x.f.a*y.f.a/2^q.toNat) (upI ((x.f.a+x.f.e)*(y.f.a+y.f.e)) q.toNat)):=rfl
    rw [goal,key]
    rw [key] at hlo he'
    refine ⟨by omega,⟨by omega,by omega⟩,xo,yo,by omega,⟨by omega,by omega⟩,rfl,br_intro (fun h=>?_) fun h=>?_⟩
    · rw [h,if_pos rfl] at hlo he' ⊢
      rw [val_ws (by omega)]
      exact ⟨word_one,⟨hlen,by simp [ws_one]⟩,⟨hlo,he',rfl⟩,.inl rfl⟩
    · rw [h,if_neg (by simp),Int.add_zero] at hlo he' ⊢
      exact ⟨⟨hlo,he',rfl⟩,.inl rfl⟩⟩
def sSer2:List (FuncId×Spec):=[(56,rForm)] ++ sSer1
theorem sSer2_ok:SpecsOk Tryz.prog sSer2:=⟨rForm_ok,sSer1_ok⟩
def ivF(x:Fx)(q:Int):Vx:=⟨mkD false x.a (-q),mkD false (x.a+x.e) (-q)⟩
def seIval:Spec:=specK [.fx,.i .i64] fun (x:Fw) (q:Int)=>(some (x.Ok∧0≤q∧q≤16777216),vT (ivF x.f q))
theorem seIval_vc(x:Fw)(q:Int)(Q:Tv→Prop):execF ⟨tys3,sSer2⟩ (fun _=>none) 0 Tryz.f96 [.agg (fwL false x),.one (.int .i64 q)] Q=(inR ((0:Int)-q)∧((-4611686018427387904:Int)≤0-q∧(0:Int)-q≤4611686018427387904)∧Fw.Ok x∧inR ((0:Int)-q)∧((-4611686018427387904:Int)≤0-q∧(0:Int)-q≤4611686018427387904)∧true=true∧Q (Tv.sv (Sv.agg (ivL true (Vx.mk (mkD false (val x.xs) ((0:Int)-q)) (mkD false (val (ws ((Fw.f x).a+(Fw.f x).e))) ((0:Int)-q))))))):=by kernel_rfl
theorem seIval_ok:SpecOk Tryz.prog 96 seIval :=
  specK_ok (envOk tys3_ok sSer2_ok) mixed Tryz.func96 rfl (by decide) (by decide) fun (x:Fw) hx (q:Int) _ hp=>⟨fun _=>none,0,by
    obtain ⟨xo,q0,q1⟩:x.Ok∧0≤q∧q≤16777216:=hp
    refine (seIval_vc x q _).mpr ?_
    rw [val_ws (xo.len hx).2.1,Int.zero_sub]
    exact ⟨⟨by omega,by omega⟩,⟨by omega,by omega⟩,xo,⟨by omega,by omega⟩,⟨by omega,by omega⟩,rfl,rfl⟩⟩
def sSer3:List (FuncId×Spec):=[(118,rFloor),(119,rShift),(120,rNeg)] ++ sSer1
theorem sSer3_ok:SpecsOk Tryz.prog sSer3:=⟨rFloor_ok,rShift_ok,rNeg_ok,sSer1_ok⟩
def wholeI(d:Dx):Int:=d.m*2^d.e.toNat
def fromF(v:Vx)(q:Int):Fx:=btwF (wholeI (floorD (shiftD v.lo q))) (wholeI (negD (floorD (negD (shiftD v.hi q)))))
def seFrom:Spec:=specK [.v,.i .i64] fun (v:Vx) (q:Int)=>(some (v.Sm 268435456∧0≤q∧q≤16777216∧0≤(fromF v q).e∧(fromF v q).e≤1099511627776),fxT (fromF v q))
theorem seFrom_vc(v:Vx)(q:Int)(Q:Tv→Prop):execF ⟨tys3,sSer3⟩ (fun _=>none) 0 Tryz.f88 [.agg (ivL false v),.one (.int .i64 q)] Q=(((-2305843009213693952:Int)≤v.lo.e∧v.lo.e≤2305843009213693952∧(-2305843009213693952:Int)≤q∧q≤2305843009213693952)∧Dx.Sm 68719476736 (shiftD v.lo q)∧((-2305843009213693952:Int)≤v.hi.e∧v.hi.e≤2305843009213693952∧(-2305843009213693952:Int)≤q∧q≤2305843009213693952)∧((-4611686018427387904:Int)≤(shiftD v.hi q).e∧(shiftD v.hi q).e≤4611686018427387904)∧Dx.Sm 68719476736 (negD (shiftD v.hi q))∧((-4611686018427387904:Int)≤(floorD (negD (shiftD v.hi q))).e∧(floorD (negD (shiftD v.hi q))).e≤4611686018427387904)∧((0:Int)≤(floorD (shiftD v.lo q)).e∧Dx.Sm 68719476736 (floorD (shiftD v.lo q)))∧((0:Int)≤(negD (floorD (negD (shiftD v.hi q)))).e∧Dx.Sm 68719476736 (negD (floorD (negD (shiftD v.hi q)))))∧(val (ws (Dx.m (floorD (shiftD v.lo q))*2^Int.toNat (floorD (shiftD v.lo q)).e))≤val (ws (Dx.m (negD (floorD (negD (shiftD v.hi q))))*2^Int.toNat (negD (floorD (negD (shiftD v.hi q)))).e))∧val (ws (Dx.m (negD (floorD (negD (shiftD v.hi q))))*2^Int.toNat (negD (floorD (negD (shiftD v.hi q)))).e))-val (ws (Dx.m (floorD (shiftD v.lo q))*2^Int.toNat (floorD (shiftD v.lo q)).e))≤1099511627776∧ws (Dx.m (floorD (shiftD v.lo q))*2^Int.toNat (floorD (shiftD v.lo q)).e)=ws (val (ws (Dx.m (floorD (shiftD v.lo q))*2^Int.toNat (floorD (shiftD v.lo q)).e))))∧true=true∧Q (Tv.sv (Sv.agg (fwL false (fw (btwF (val (ws (Dx.m (floorD (shiftD v.lo q))*2^Int.toNat (floorD (shiftD v.lo q)).e))) (val (ws (Dx.m (negD (floorD (negD (shiftD v.hi q))))*2^Int.toNat (negD (floorD (negD (shiftD v.hi q)))).e))))))))):=by kernel_rfl
theorem mkD_e0{neg:Bool}{m e:Int}(h:0≤e):0≤(mkD neg m e).e:=by
  unfold mkD;split
  · exact Int.le_refl _
  · show 0≤e+(tz m:Int);omega
theorem floorD_p{d:Dx}:0≤(floorD d).m:=by unfold floorD;split;exact oneD_p;exact mkD_p
theorem floorD_e{d:Dx}:0≤(floorD d).e:=by
  unfold floorD;split
  · assumption
  · exact mkD_e0 (Int.le_refl _)
theorem floorD_sm{d:Dx}{N:Nat}(hd:0≤d.m)(h:d.Sm N):(floorD d).Sm (N+N+2):=by
  have z:=one_sm hd h
  unfold floorD;split
  · exact z.mono (by omega)
  · have p0:=two_pow_pos (-(oneD d).e).toNat
    have m0:0≤(oneD d).m:=oneD_p
    have hq:0≤(oneD d).m/2^(-(oneD d).e).toNat:=Int.ediv_nonneg m0 (by omega)
    have hl:(oneD d).m/2^(-(oneD d).e).toNat≤(oneD d).m:=Int.ediv_le_self _ m0
    have hb:blen ((oneD d).m/2^(-(oneD d).e).toNat+if (lostB (oneD d).m (-(oneD d).e).toNat && (oneD d).neg)=true then 1 else 0)≤N+N+1:=by
      refine blen_le ?_
      have h1:=blen_lt (oneD d).m
      have h2:=two_pow_le (j:=blen (oneD d).m) (k:=N+N) z.1
      have h3:=two_pow_pos (N+N)
      rw [Int.pow_succ]
      split<;>omega
    exact (mkD_sm (N:=N+N+1) (M:=0) (by split<;>omega) hb (by omega) (by omega)).mono (by omega)
theorem negD_e0{d:Dx}(h:0≤d.e):0≤(negD d).e:=mkD_e0 h
theorem wholeI_p{d:Dx}(h:0≤d.m):0≤wholeI d:=Int.mul_nonneg h (by have:=two_pow_pos d.e.toNat;omega)
theorem seFrom_ok:SpecOk Tryz.prog 88 seFrom :=
  specKW_ok (envOk tys3_ok sSer3_ok) mixed Tryz.func88 rfl (by decide) (by decide) fun (v:Vx) hv (q:Int) _ hp=>⟨fun _=>none,0,by
    obtain ⟨⟨s1,s2⟩,q0,q1,he0,he1⟩:v.Sm 268435456∧0≤q∧q≤16777216∧0≤(fromF v q).e∧(fromF v q).e≤1099511627776:=hp
    have hv:=Vx.Wf.p hv
    have z1:=shiftD_sm (n:=q) (M:=16777216) hv.1 s1 (by omega) (by omega)
    have z2:=shiftD_sm (n:=q) (M:=16777216) hv.2 s2 (by omega) (by omega)
    have z3:=negD_sm z2 shiftD_p
    have z4:=floorD_sm shiftD_p z1
    have z5:=floorD_sm negD_p z3
    have z6:=negD_sm z5 floorD_p
    have w1:=wholeI_p (d:=floorD (shiftD v.lo q)) floorD_p
    have w2:=wholeI_p (d:=negD (floorD (negD (shiftD v.hi q)))) negD_p
    show execF _ _ _ _ _ (fun t=>t=fxT (fromF v q)∨fgT t=fxT (fromF v q))
    refine (seFrom_vc v q _).mpr ?_
    unfold wholeI at w1 w2
    rw [val_ws w1,val_ws w2]
    have he0':0≤Dx.m (negD (floorD (negD (shiftD v.hi q))))*(2:Int)^Int.toNat (negD (floorD (negD (shiftD v.hi q)))).e-Dx.m (floorD (shiftD v.lo q))*(2:Int)^Int.toNat (floorD (shiftD v.lo q)).e:=he0
    have he1':Dx.m (negD (floorD (negD (shiftD v.hi q))))*(2:Int)^Int.toNat (negD (floorD (negD (shiftD v.hi q)))).e-Dx.m (floorD (shiftD v.lo q))*(2:Int)^Int.toNat (floorD (shiftD v.lo q)).e≤1099511627776:=he1
    have e1:=s1.2;have e2:=s2.2
    exact ⟨⟨by omega,by omega,by omega,by omega⟩,z1.mono (by omega),⟨by omega,by omega,by omega,by omega⟩,z2.eB (by omega),z3.mono (by omega),z5.eB (by omega),⟨floorD_e,z4.mono (by omega)⟩,⟨negD_e0 floorD_e,z6.mono (by omega)⟩,⟨by omega,he1',rfl⟩,rfl,.inl rfl⟩⟩
def sSer:List (FuncId×Spec):=[(88,seFrom),(95,seSub),(92,seMul),(96,seIval)] ++ sSer1
theorem sSer_ok:SpecsOk Tryz.prog sSer:=⟨seFrom_ok,seSub_ok,seMul_ok,seIval_ok,sSer1_ok⟩
def Tm(g:Fx→Int→Fx)(t:Fx):Nat→Fx
  | 0=>t
  | k+1=>g (Tm g t k) (k+1:Nat)
def Sm2(g:Fx→Int→Fx)(t:Fx)(b:Nat):Nat→Fx
  | 0=>⟨0,0⟩
  | k+1=>if k % 2=b then addF (Sm2 g t b k) (Tm g t k) else Sm2 g t b k
def findK(P:Nat→Bool):Nat→Nat→Nat
  | 0,k=>k
  | n+1,k=>match P k with | true=>k | false=>findK P n (k+1)
def stopK(g:Fx→Int→Fx)(t:Fx):Nat:=findK (fun k=>decide ((Tm g t k).a=0)) 1048576 1
def sumR(g:Fx→Int→Fx)(t:Fx)(b:Nat):Fx:=widerF (Sm2 g t b (stopK g t)) ((Tm g t (stopK g t)).e+4)
def SumOk(g:Fx→Int→Fx)(pr:Fx→Int→Prop)(t:Fx):Prop :=
  1≤stopK g t∧stopK g t≤1048577∧(Tm g t (stopK g t)).a=0∧(∀ k,1≤k→k<stopK g t→(Tm g t k).a≠0)∧(∀ k,k<stopK g t→pr (Tm g t k) (k+1:Nat)) ∧
    ∀ k,k≤stopK g t→((Tm g t k).Ok∧(Tm g t k).e≤549755813888)∧(Sm2 g t 0 k).Ok∧(Sm2 g t 1 k).Ok
def wAlt(g:Int→Fx→Int→Fx→Int→Fx)(pr:Int→Fx→Int→Fx→Int→Prop):Spec:=fun l=>match l with
  | [.agg [.words false xs,.int .u64 e],.one (.int .i64 k),.one (.ref [.int .i64 f]),.one (.ref [.words false ys,.int .u64 d]),.one (.ref [.int .i64 w])] =>
    (some (xs=ws (val xs)∧ys=ws (val ys)∧pr f ⟨val ys,d⟩ w ⟨val xs,e⟩ k),fxT (g f ⟨val ys,d⟩ w ⟨val xs,e⟩ k))
  | _=>noSpec
def stepA(f:Int)(sq:Fx)(w:Int)(t:Fx)(k:Int):Fx:=shortF (shortF (mulF t sq w) (f+2*(k-1))) (f+2*(k-1)+1)
theorem cAlt_vc(f k w d e:Int)(xs ys:List Int)(Q:Tv→Prop):execF ⟨tys3,sSer⟩ (fun _=>none) 0 Tryz.f91 [.agg [.words false xs,.int .u64 e],.one (.int .i64 k),.one (.ref [.int .i64 f]),.one (.ref [.words false ys,.int .u64 d]),.one (.ref [.int .i64 w])] Q=(inR (k-1)∧inR ((2:Int)*(k-1))∧inR (f+2*(k-1))∧(Fw.Ok (Fw.mk xs e)∧Fw.Ok (Fw.mk ys d)∧(0:Int)≤w∧w≤16777216∧(mulF (Fw.f (Fw.mk xs e)) (Fw.f (Fw.mk ys d)) w).e≤1099511627776)∧((0:Int)≤(fw (mulF (Fw.f (Fw.mk xs e)) (Fw.f (Fw.mk ys d)) w)).e∧(fw (mulF (Fw.f (Fw.mk xs e)) (Fw.f (Fw.mk ys d)) w)).e≤1099511627776∧(0:Int)<IntKind.wrap IntKind.u64 (f+2*(k-1))∧IntKind.wrap IntKind.u64 (f+2*(k-1))<18446744073709551616)∧((0:Int)≤(fw (shortF (Fw.f (fw (mulF (Fw.f (Fw.mk xs e)) (Fw.f (Fw.mk ys d)) w))) (IntKind.wrap IntKind.u64 (f+2*(k-1))))).e∧(fw (shortF (Fw.f (fw (mulF (Fw.f (Fw.mk xs e)) (Fw.f (Fw.mk ys d)) w))) (IntKind.wrap IntKind.u64 (f+2*(k-1))))).e≤1099511627776∧(0:Int)<IntKind.wrap IntKind.u64 (IntKind.wrap IntKind.u64 (f+2*(k-1))+1)∧IntKind.wrap IntKind.u64 (IntKind.wrap IntKind.u64 (f+2*(k-1))+1)<18446744073709551616)∧Q (Tv.sv (Sv.agg (fwL false (fw (shortF (Fw.f (fw (shortF (Fw.f (fw (mulF (Fw.f (Fw.mk xs e)) (Fw.f (Fw.mk ys d)) w))) (IntKind.wrap IntKind.u64 (f+2*(k-1)))))) (IntKind.wrap IntKind.u64 (IntKind.wrap IntKind.u64 (f+2*(k-1))+1)))))))):=by kernel_rfl
def preA(f:Int)(sq:Fx)(w:Int)(t:Fx)(k:Int):Prop:=t.Ok∧sq.Ok∧0≤w∧w≤16777216∧(mulF t sq w).e≤549755813888∧1≤k∧k≤1048577∧1≤f∧f≤2
theorem fx_ok{xs:List Int}{e:Int}(h:xs=ws (val xs))(k:Fx.Ok ⟨val xs,e⟩):Fw.Ok ⟨xs,e⟩:=by
  have:=k.w
  have e1:fw ⟨val xs,e⟩=⟨xs,e⟩:=by show (⟨ws (val xs),e⟩:Fw)=_;rw [←h]
  rwa [e1] at this
theorem mulF_e0{x y:Fx}{w:Int}(hx:x.Ok)(hy:y.Ok):0≤(mulF x y w).a∧0≤(mulF x y w).e:=by
  have m1:=Int.mul_nonneg hx.1 hy.1
  have p0:=two_pow_pos w.toNat
  have:=mulF_lo (k:=w.toNat) hx.1 hy.1 hx.2.2.1 hy.2.2.1
  exact ⟨Int.ediv_nonneg m1 (by omega),by show 0≤upI _ _-_;omega⟩
theorem shortF_e0{x:Fx}{d:Int}(ha:0≤x.a)(he:0≤x.e)(hd:0<d):0≤(shortF x d).a∧2≤(shortF x d).e∧(shortF x d).e≤x.e+2:=by
  have q0:=Int.ediv_nonneg he (show 0≤d by omega)
  have q1:=Int.ediv_le_self d he
  exact ⟨Int.ediv_nonneg ha (by omega),show 2≤x.e/d+2 by omega,show x.e/d+2≤x.e+2 by omega⟩
theorem cAlt_ok:SpecOk Tryz.prog 91 (wAlt stepA preA) :=
  specOk_pat (envOk tys3_ok sSer_ok) mixed Tryz.func91 rfl (by decide) 5 (by decide) fun l p t hwf e hp=>by
    unfold wAlt at e
    split at e
    · rename_i xs e0 k f ys d w
      cases e
      obtain ⟨hx,hy,ot,os,w0,w1,me,k0,k1,f0,f1⟩:xs=ws (val xs)∧ys=ws (val ys)∧preA f ⟨val ys,d⟩ w ⟨val xs,e0⟩ k:=hp
      have z:=mulF_e0 (w:=w) ot os
      have z1:=shortF_e0 (d:=f+2*(k-1)) z.1 z.2 (by omega)
      refine ⟨Nat.le_refl 5,fun _=>none,0,(cAlt_vc f k w d e0 xs ys _).mpr ?_⟩
      have e1:IntKind.u64.wrap (f+2*(k-1))=f+2*(k-1):=wrap_w ⟨by omega,by omega⟩
      have e2:IntKind.u64.wrap (f+2*(k-1)+1)=f+2*(k-1)+1:=wrap_w ⟨by omega,by omega⟩
      have e3:(fw (mulF ⟨val xs,e0⟩ ⟨val ys,d⟩ w)).f=mulF ⟨val xs,e0⟩ ⟨val ys,d⟩ w:=fw_f z.1
      have e4:(fw (shortF (mulF ⟨val xs,e0⟩ ⟨val ys,d⟩ w) (f+2*(k-1)))).f=shortF (mulF ⟨val xs,e0⟩ ⟨val ys,d⟩ w) (f+2*(k-1)):=fw_f z1.1
      have e5:∀ z:Fx,(fw z).e=z.e:=fun _=>rfl
      have e6:(Fw.mk xs e0).f=⟨val xs,e0⟩:=rfl
      have e7:(Fw.mk ys d).f=⟨val ys,d⟩:=rfl
      rw [e6,e7,e1,e2,e3,e4,e5,e5]
      exact ⟨⟨by omega,by omega⟩,⟨by omega,by omega⟩,⟨by omega,by omega⟩,⟨fx_ok hx ot,fx_ok hy os,w0,w1,by omega⟩,⟨z.2,by omega,by omega,by omega⟩,⟨by omega,by omega,by omega,by omega⟩,.inl rfl⟩
    · cases e;exact hp.elim
def tyFx2:TyRow:=⟨93,4,true,[.words true [],.int .u64 0,.words true [],.int .u64 0],.array 2 2 true⟩
def tys4:List TyRow:=tyFx2 :: tys3
theorem tys4_ok:RowsOk Tryz.prog tys4:=⟨by kernel_rfl,tys3_ok⟩
def sSmA(g:Int→Fx→Int→Fx→Int→Fx)(pr:Int→Fx→Int→Fx→Int→Prop):List (FuncId×Spec):=[(123,seAdd),(94,seWid),(91,wAlt g pr)]
def smK:LKeep:=⟨[1,4,5,6,7,8],[(1,2),(2,2),(4,4),(7,2)],10⟩
def clX(b o:Nat)(nw:Bool)(x:Fw):List (Nat×Nat×At):=[(b,o,.words nw x.xs),(b,o+1,.int .u64 x.e)]
def smSt(fn:At)(T S0 S1:Nat→Fx)(a:Nat×Bool×Bool):List (Nat×Tv)×List (Nat×Nat×At) :=
  ([(1,.sv (.one fn)),(4,.sv (.one (.ptr 1 0))),(5,.sv (.one (.ptr 2 0))),(6,.sv (.one (.ptr 4 0))),(7,.sv (.one (.ptr 7 0))),(8,iT (a.1:Nat))],
   [(1,0,.words true []),(1,1,.int .u64 0),(2,0,.words true []),(2,1,.int .u64 0)] ++ (clX 4 0 a.2.1 (fw (S0 a.1)) ++ (clX 4 2 a.2.2 (fw (S1 a.1)) ++ clX 7 0 false (fw (T a.1)))))
def altF(f:Int)(ys:List Int)(d w:Int):At:=.fn 91 [.ref [.int .i64 f],.ref [.words false ys,.int .u64 d],.ref [.int .i64 w]]
def smSt7(fn:At)(T S0 S1:Nat→Fx)(a:Nat×Bool×Bool):List (Nat×Tv)×List (Nat×Nat×At) :=
  ([(1,.sv (.one fn)),(4,.sv (.one (.ptr 1 0))),(5,.sv (.one (.ptr 2 0))),(6,.sv (.one (.ptr 4 0))),(7,.sv (.one (.ptr 7 0))),(8,iT (a.1:Nat))],
   [(1,0,.words true []),(1,1,.int .u64 0),(2,0,.words true []),(2,1,.int .u64 0)] ++ (clX 4 0 a.2.1 (fw (S0 (a.1+1))) ++ (clX 4 2 a.2.2 (fw (S1 (a.1+1))) ++ clX 7 0 false (fw (T a.1)))))
def smCut(fn:At)(T S0 S1:Nat→Fx)(K:Nat)(a:Nat×Bool×Bool)(n:Nat):Option LInv :=
  match Nat.beq 6 n with
  | true=>some (.cut smK (Nat×Bool×Bool) (smSt fn T S0 S1) (fun x=>x.1=a.1∧x.1<K))
  | false=>match Nat.beq 7 n with
    | true=>some (.cut smK (Nat×Bool×Bool) (smSt7 fn T S0 S1) (fun x=>x.1=a.1∧x.1<K))
    | false=>none
def smInv(fn:At)(T S0 S1:Nat→Fx)(K:Nat):Nat→Option LInv :=
  invAt 4 (.relI smK (Nat×Bool×Bool) (smSt fn T S0 S1) (fun a=>a.1≤K) (fun a=>K-a.1) (smCut fn T S0 S1 K))
theorem sumA_vc(g:Int→Fx→Int→Fx→Int→Fx)(pr:Int→Fx→Int→Fx→Int→Prop)(T S0 S1:Nat→Fx)(K:Nat)(t:Fw)(f d w:Int)(ys:List Int)(Q:Tv→Prop):execF ⟨tys4,sSmA g pr⟩ (smInv (altF f ys d w) T S0 S1 K) 0 Tryz.f89 [.agg (fwL false t),.one (altF f ys d w)] Q=(true=true∧(∃ (a:Nat×Bool×Bool),a.fst≤K∧Sg.mk [(1,Tv.sv (Sv.one (At.fn 91 [At.ref [At.int .i64 f],At.ref [At.words false ys,At.int .u64 d],At.ref [At.int .i64 w]]))),(4,Tv.sv (Sv.one (At.ptr ((0:Nat)+1) 0))),(5,Tv.sv (Sv.one (At.ptr ((0:Nat)+2) 0))),(6,Tv.sv (Sv.one (At.ptr ((3:Nat)+1) 0))),(7,Tv.sv (Sv.one (At.ptr ((6:Nat)+1) 0))),(8,iT 0)] [(1,0,At.words true []),(1,1,At.int .u64 0),(2,0,At.words true []),(2,1,At.int .u64 0),(4,0,At.words true []),(4,1,At.int .u64 0),(4,2,At.words true []),(4,3,At.int .u64 0),(7,0,At.words false t.xs),(7,1,At.int .u64 t.e)] 10=LKeep.at smK (smSt (altF f ys d w) T S0 S1 a))∧∀ (a:Nat×Bool×Bool),a.fst≤K→br (ltI 0 (↑(List.length (fw (T a.fst)).xs):Int)) (true=true∧∃ (x:Nat×Bool×Bool),(x.fst=a.fst∧x.fst<K)∧Sg.mk [(1,Tv.sv (Sv.one (At.fn 91 [At.ref [At.int .i64 f],At.ref [At.words false ys,At.int .u64 d],At.ref [At.int .i64 w]]))),(4,Tv.sv (Sv.one (At.ptr 1 0))),(5,Tv.sv (Sv.one (At.ptr 2 0))),(6,Tv.sv (Sv.one (At.ptr 4 0))),(7,Tv.sv (Sv.one (At.ptr 7 0))),(8,iT (↑a.fst:Int))] [(1,0,At.words true []),(1,1,At.int .u64 0),(2,0,At.words true []),(2,1,At.int .u64 0),(4,0,At.words a.snd.fst (fw (S0 a.fst)).xs),(4,1,At.int .u64 (fw (S0 a.fst)).e),(4,2,At.words a.snd.snd (fw (S1 a.fst)).xs),(4,3,At.int .u64 (fw (S1 a.fst)).e),(7,0,At.words false (fw (T a.fst)).xs),(7,1,At.int .u64 (fw (T a.fst)).e)] 10=LKeep.at smK (smSt (altF f ys d w) T S0 S1 x)) (br (eqI (↑a.fst:Int) 0) (true=true∧∃ (x:Nat×Bool×Bool),(x.fst=a.fst∧x.fst<K)∧Sg.mk [(1,Tv.sv (Sv.one (At.fn 91 [At.ref [At.int .i64 f],At.ref [At.words false ys,At.int .u64 d],At.ref [At.int .i64 w]]))),(4,Tv.sv (Sv.one (At.ptr 1 0))),(5,Tv.sv (Sv.one (At.ptr 2 0))),(6,Tv.sv (Sv.one (At.ptr 4 0))),(7,Tv.sv (Sv.one (At.ptr 7 0))),(8,iT (↑a.fst:Int))] [(1,0,At.words true []),(1,1,At.int .u64 0),(2,0,At.words true []),(2,1,At.int .u64 0),(4,0,At.words a.snd.fst (fw (S0 a.fst)).xs),(4,1,At.int .u64 (fw (S0 a.fst)).e),(4,2,At.words a.snd.snd (fw (S1 a.fst)).xs),(4,3,At.int .u64 (fw (S1 a.fst)).e),(7,0,At.words false (fw (T a.fst)).xs),(7,1,At.int .u64 (fw (T a.fst)).e)] 10=LKeep.at smK (smSt (altF f ys d w) T S0 S1 x)) (((0:Int)≤0∧(0:Int)<(↑(2:Nat):Int))∧(Fw.Ok (fw (S0 a.fst))∧(0:Int)≤IntKind.wrap IntKind.u64 ((fw (T a.fst)).e+4)∧IntKind.wrap IntKind.u64 ((fw (T a.fst)).e+4)≤1099511627776∧(fw (S0 a.fst)).xs=ws (val (fw (S0 a.fst)).xs))∧((0:Int)≤1∧(1:Int)<(↑(2:Nat):Int))∧(Fw.Ok (fw (S1 a.fst))∧(0:Int)≤IntKind.wrap IntKind.u64 ((fw (T a.fst)).e+4)∧IntKind.wrap IntKind.u64 ((fw (T a.fst)).e+4)≤1099511627776∧(fw (S1 a.fst)).xs=ws (val (fw (S1 a.fst)).xs))∧true=true∧Q (Tv.tup [Sv.agg (fwL false (fw (widerF (Fw.f (fw (S0 a.fst))) (IntKind.wrap IntKind.u64 ((fw (T a.fst)).e+4))))),Sv.agg (fwL false (fw (widerF (Fw.f (fw (S1 a.fst))) (IntKind.wrap IntKind.u64 ((fw (T a.fst)).e+4)))))])))∧∀ (x:Nat×Bool×Bool),x.fst=a.fst∧x.fst<K→((2:Int)≠0∧(2:Int)≠0∧br (eqI (Int.tmod (↑x.fst:Int) 2) 0) (((0:Int)≤Int.tmod (↑x.fst:Int) 2∧Int.tmod (↑x.fst:Int) 2<(↑(2:Nat):Int))∧(Fw.Ok (fw (S0 x.fst))∧Fw.Ok (fw (T x.fst)))∧br (eqI (Int.tmod (↑x.fst:Int) 2) 0) (((0:Int)≤Int.tmod (↑x.fst:Int) 2∧Int.tmod (↑x.fst:Int) 2<(↑(2:Nat):Int))∧true=true∧true=true∧∃ (x_1:Nat×Bool×Bool),(x_1.fst=a.fst∧x_1.fst<K)∧Sg.mk [(1,Tv.sv (Sv.one (At.fn 91 [At.ref [At.int .i64 f],At.ref [At.words false ys,At.int .u64 d],At.ref [At.int .i64 w]]))),(4,Tv.sv (Sv.one (At.ptr 1 0))),(5,Tv.sv (Sv.one (At.ptr 2 0))),(6,Tv.sv (Sv.one (At.ptr 4 0))),(7,Tv.sv (Sv.one (At.ptr 7 0))),(8,iT (↑x.fst:Int))] [(1,0,At.words true []),(1,1,At.int .u64 0),(2,0,At.words true []),(2,1,At.int .u64 0),(4,0,At.words false (fw (addF (Fw.f (fw (S0 x.fst))) (Fw.f (fw (T x.fst))))).xs),(4,1,At.int .u64 (fw (addF (Fw.f (fw (S0 x.fst))) (Fw.f (fw (T x.fst))))).e),(4,2,At.words x.snd.snd (fw (S1 x.fst)).xs),(4,3,At.int .u64 (fw (S1 x.fst)).e),(7,0,At.words false (fw (T x.fst)).xs),(7,1,At.int .u64 (fw (T x.fst)).e)] 10=LKeep.at smK (smSt7 (altF f ys d w) T S0 S1 x_1)) (((0:Int)≤Int.tmod (↑x.fst:Int) 2∧Int.tmod (↑x.fst:Int) 2<(↑(2:Nat):Int))∧true=true∧true=true∧∃ (x_1:Nat×Bool×Bool),(x_1.fst=a.fst∧x_1.fst<K)∧Sg.mk [(1,Tv.sv (Sv.one (At.fn 91 [At.ref [At.int .i64 f],At.ref [At.words false ys,At.int .u64 d],At.ref [At.int .i64 w]]))),(4,Tv.sv (Sv.one (At.ptr 1 0))),(5,Tv.sv (Sv.one (At.ptr 2 0))),(6,Tv.sv (Sv.one (At.ptr 4 0))),(7,Tv.sv (Sv.one (At.ptr 7 0))),(8,iT (↑x.fst:Int))] [(1,0,At.words true []),(1,1,At.int .u64 0),(2,0,At.words true []),(2,1,At.int .u64 0),(4,0,At.words x.snd.fst (fw (S0 x.fst)).xs),(4,1,At.int .u64 (fw (S0 x.fst)).e),(4,2,At.words false (fw (addF (Fw.f (fw (S0 x.fst))) (Fw.f (fw (T x.fst))))).xs),(4,3,At.int .u64 (fw (addF (Fw.f (fw (S0 x.fst))) (Fw.f (fw (T x.fst))))).e),(7,0,At.words false (fw (T x.fst)).xs),(7,1,At.int .u64 (fw (T x.fst)).e)] 10=LKeep.at smK (smSt7 (altF f ys d w) T S0 S1 x_1))) (((0:Int)≤Int.tmod (↑x.fst:Int) 2∧Int.tmod (↑x.fst:Int) 2<(↑(2:Nat):Int))∧(Fw.Ok (fw (S1 x.fst))∧Fw.Ok (fw (T x.fst)))∧br (eqI (Int.tmod (↑x.fst:Int) 2) 0) (((0:Int)≤Int.tmod (↑x.fst:Int) 2∧Int.tmod (↑x.fst:Int) 2<(↑(2:Nat):Int))∧true=true∧true=true∧∃ (x_1:Nat×Bool×Bool),(x_1.fst=a.fst∧x_1.fst<K)∧Sg.mk [(1,Tv.sv (Sv.one (At.fn 91 [At.ref [At.int .i64 f],At.ref [At.words false ys,At.int .u64 d],At.ref [At.int .i64 w]]))),(4,Tv.sv (Sv.one (At.ptr 1 0))),(5,Tv.sv (Sv.one (At.ptr 2 0))),(6,Tv.sv (Sv.one (At.ptr 4 0))),(7,Tv.sv (Sv.one (At.ptr 7 0))),(8,iT (↑x.fst:Int))] [(1,0,At.words true []),(1,1,At.int .u64 0),(2,0,At.words true []),(2,1,At.int .u64 0),(4,0,At.words false (fw (addF (Fw.f (fw (S1 x.fst))) (Fw.f (fw (T x.fst))))).xs),(4,1,At.int .u64 (fw (addF (Fw.f (fw (S1 x.fst))) (Fw.f (fw (T x.fst))))).e),(4,2,At.words x.snd.snd (fw (S1 x.fst)).xs),(4,3,At.int .u64 (fw (S1 x.fst)).e),(7,0,At.words false (fw (T x.fst)).xs),(7,1,At.int .u64 (fw (T x.fst)).e)] 10=LKeep.at smK (smSt7 (altF f ys d w) T S0 S1 x_1)) (((0:Int)≤Int.tmod (↑x.fst:Int) 2∧Int.tmod (↑x.fst:Int) 2<(↑(2:Nat):Int))∧true=true∧true=true∧∃ (x_1:Nat×Bool×Bool),(x_1.fst=a.fst∧x_1.fst<K)∧Sg.mk [(1,Tv.sv (Sv.one (At.fn 91 [At.ref [At.int .i64 f],At.ref [At.words false ys,At.int .u64 d],At.ref [At.int .i64 w]]))),(4,Tv.sv (Sv.one (At.ptr 1 0))),(5,Tv.sv (Sv.one (At.ptr 2 0))),(6,Tv.sv (Sv.one (At.ptr 4 0))),(7,Tv.sv (Sv.one (At.ptr 7 0))),(8,iT (↑x.fst:Int))] [(1,0,At.words true []),(1,1,At.int .u64 0),(2,0,At.words true []),(2,1,At.int .u64 0),(4,0,At.words x.snd.fst (fw (S0 x.fst)).xs),(4,1,At.int .u64 (fw (S0 x.fst)).e),(4,2,At.words false (fw (addF (Fw.f (fw (S1 x.fst))) (Fw.f (fw (T x.fst))))).xs),(4,3,At.int .u64 (fw (addF (Fw.f (fw (S1 x.fst))) (Fw.f (fw (T x.fst))))).e),(7,0,At.words false (fw (T x.fst)).xs),(7,1,At.int .u64 (fw (T x.fst)).e)] 10=LKeep.at smK (smSt7 (altF f ys d w) T S0 S1 x_1))))∧∀ (x:Nat×Bool×Bool),x.fst=a.fst∧x.fst<K→inR ((↑x.fst:Int)+1)∧((fw (T x.fst)).xs=ws (val (fw (T x.fst)).xs)∧ys=ws (val ys)∧pr f (Fx.mk (val ys) d) w (Fx.mk (val (fw (T x.fst)).xs) (fw (T x.fst)).e) ((↑x.fst:Int)+1))∧inR ((↑x.fst:Int)+1)∧true=true∧∃ (a':Nat×Bool×Bool),a'.fst≤K∧Sg.mk [(1,Tv.sv (Sv.one (At.fn 91 [At.ref [At.int .i64 f],At.ref [At.words false ys,At.int .u64 d],At.ref [At.int .i64 w]]))),(4,Tv.sv (Sv.one (At.ptr 1 0))),(5,Tv.sv (Sv.one (At.ptr 2 0))),(6,Tv.sv (Sv.one (At.ptr 4 0))),(7,Tv.sv (Sv.one (At.ptr 7 0))),(8,iT ((↑x.fst:Int)+1))] [(1,0,At.words true []),(1,1,At.int .u64 0),(2,0,At.words true []),(2,1,At.int .u64 0),(4,0,At.words x.snd.fst (fw (S0 (x.fst+1))).xs),(4,1,At.int .u64 (fw (S0 (x.fst+1))).e),(4,2,At.words x.snd.snd (fw (S1 (x.fst+1))).xs),(4,3,At.int .u64 (fw (S1 (x.fst+1))).e),(7,0,At.words false (fw (g f (Fx.mk (val ys) d) w (Fx.mk (val (fw (T x.fst)).xs) (fw (T x.fst)).e) ((↑x.fst:Int)+1))).xs),(7,1,At.int .u64 (fw (g f (Fx.mk (val ys) d) w (Fx.mk (val (fw (T x.fst)).xs) (fw (T x.fst)).e) ((↑x.fst:Int)+1))).e)] 10=LKeep.at smK (smSt (altF f ys d w) T S0 S1 a')∧K-a'.fst<K-a.fst):=by kernel_rfl
theorem sSmA_ok:SpecsOk Tryz.prog (sSmA stepA preA):=⟨seAdd_ok,seWid_ok,cAlt_ok,trivial⟩
def altSumR(f:Int)(sq:Fx)(w:Int)(t:Fx)(b:Nat):Fx:=sumR (stepA f sq w) t b
def altSumOk(f:Int)(sq:Fx)(w:Int)(t:Fx):Prop:=SumOk (stepA f sq w) (preA f sq w) t
def seSumA:Spec:=fun l=>match l with
  | [.agg [.words false xs,.int .u64 e],.one (.fn n [.ref [.int .i64 f],.ref [.words false ys,.int .u64 d],.ref [.int .i64 w]])] =>
    (some (n=91∧xs=ws (val xs)∧ys=ws (val ys)∧altSumOk f ⟨val ys,d⟩ w ⟨val xs,e⟩),
      .tup [.agg (fwL false (fw (altSumR f ⟨val ys,d⟩ w ⟨val xs,e⟩ 0))),.agg (fwL false (fw (altSumR f ⟨val ys,d⟩ w ⟨val xs,e⟩ 1)))])
  | _=>noSpec
theorem tmod2(k:Nat):Int.tmod (k:Int) 2=((k % 2:Nat):Int):=by rw [Int.tmod_eq_emod_of_nonneg (by omega)];omega
theorem seSumA_ok:SpecOk Tryz.prog 89 seSumA :=
  specOk_pat (envOk tys4_ok sSmA_ok) mixed Tryz.func89 rfl (by decide) 2 (by decide) fun l p t hwf e hp=>by
    unfold seSumA at e
    split at e
    · rename_i xs e0 n f ys d w
      cases e
      obtain ⟨hn,hx,hy,c1,c2,c3,c4,c5,c6⟩:n=91∧xs=ws (val xs)∧ys=ws (val ys)∧SumOk (stepA f ⟨val ys,d⟩ w) (preA f ⟨val ys,d⟩ w) ⟨val xs,e0⟩:=hp
      subst hn
      unfold altSumR sumR
      generalize hg:stepA f ⟨val ys,d⟩ w=g at *
      generalize hpr:preA f ⟨val ys,d⟩ w=pr at *
      generalize hK:stopK g ⟨val xs,e0⟩=K at *
      generalize ht:(⟨val xs,e0⟩:Fx)=t at *
      have v0:∀ k,k≤K→val (ws (Tm g t k).a)=(Tm g t k).a:=fun k hk=>val_ws (c6 k hk).1.1.1
      have l0:∀ k,k≤K→(ltI 0 ((ws (Tm g t k).a).length:Nat)=decide ((Tm g t k).a≠0)):=fun k hk=>len_pos (c6 k hk).1.1.1
      refine ⟨Nat.le_refl 2,smInv (altF f ys d w) (Tm g t) (Sm2 g t 0) (Sm2 g t 1) K,0,(sumA_vc stepA preA (Tm g t) (Sm2 g t 0) (Sm2 g t 1) K ⟨xs,e0⟩ f d w ys _).mpr ?_⟩
      have ew:∀ z:Fx,(fw z).e=z.e:=fun _=>rfl
      have ex:∀ z:Fx,(fw z).xs=ws z.a:=fun _=>rfl
      have w4:∀ k,k≤K→IntKind.u64.wrap ((Tm g t k).e+4)=(Tm g t k).e+4:=fun k hk=>wrap_w ⟨by have:=(c6 k hk).1.1.2.2;omega,by have:=(c6 k hk).1.1.2.2;omega⟩
      have fwt:∀ k,k≤K→(fw (Tm g t k)).f=Tm g t k:=fun k hk=>fw_f (c6 k hk).1.1.1
      have fw0:∀ k,k≤K→(fw (Sm2 g t 0 k)).f=Sm2 g t 0 k:=fun k hk=>fw_f (c6 k hk).2.1.1
      have fw1:∀ k,k≤K→(fw (Sm2 g t 1 k)).f=Sm2 g t 1 k:=fun k hk=>fw_f (c6 k hk).2.2.1
      refine ⟨rfl,⟨(0,true,true),Nat.zero_le _,?_⟩,fun a ha=>⟨br_intro (fun h=>⟨rfl,a,⟨rfl,?_⟩,rfl⟩) fun h=>br_intro (fun h'=>⟨rfl,a,⟨rfl,?_⟩,rfl⟩) fun h'=>?_,fun x ⟨hxa,hx⟩=>⟨⟨by decide,by decide,?_⟩,fun y ⟨hya,hy0⟩=>?_⟩⟩⟩
      · have z:smSt (altF f ys d w) (Tm g t) (Sm2 g t 0) (Sm2 g t 1) (0,true,true)=([(1,.sv (.one (altF f ys d w))),(4,.sv (.one (.ptr 1 0))),(5,.sv (.one (.ptr 2 0))),(6,.sv (.one (.ptr 4 0))),(7,.sv (.one (.ptr 7 0))),(8,iT 0)],
            [(1,0,.words true []),(1,1,.int .u64 0),(2,0,.words true []),(2,1,.int .u64 0),(4,0,.words true []),(4,1,.int .u64 0),(4,2,.words true []),(4,3,.int .u64 0),(7,0,.words false xs),(7,1,.int .u64 e0)]):=by
          have q:Tm g t 0=⟨val xs,e0⟩:=ht.symm
          have q0:fw (Sm2 g t 0 0)=⟨[],0⟩:=by show (⟨ws 0,0⟩:Fw)=_;rw [ws_zero]
          have q1:fw (Sm2 g t 1 0)=⟨[],0⟩:=by show (⟨ws 0,0⟩:Fw)=_;rw [ws_zero]
          have q2:fw (Tm g t 0)=⟨xs,e0⟩:=by rw [q];show (⟨ws (val xs),e0⟩:Fw)=_;rw [←hx]
          unfold smSt
          rw [q0,q1,q2];rfl
        unfold LKeep.at
        rw [z];rfl
      · have h:=(l0 a.1 ha).symm.trans h
        rcases Nat.lt_or_ge a.1 K with k | k
        · exact k
        · rw [show a.1=K by omega,c3] at h;simp at h
      · have:=eqI_true.1 h';omega
      · have h:=(l0 a.1 ha).symm.trans h
        have h':=eqI_false.1 h'
        have hk:a.1=K:=by
          rcases Nat.lt_or_ge a.1 K with k | k
          · have:=c4 a.1 (by omega) k;simp at h;exact absurd h this
          · omega
        obtain ⟨o1,o2,o3⟩:=c6 K (Nat.le_refl _)
        rw [hk,ew,w4 K (Nat.le_refl _),fw0 K (Nat.le_refl _),fw1 K (Nat.le_refl _),ex,ex,val_ws o2.1,val_ws o3.1]
        have p0:=o1.1.2.2
        have p1:=o1.2
        exact ⟨⟨by omega,by omega⟩,⟨o2.w,by omega,by omega,rfl⟩,⟨by omega,by omega⟩,⟨o3.w,by omega,by omega,rfl⟩,rfl,.inl rfl⟩
      · obtain ⟨o1,o2,o3⟩:=c6 x.1 (by omega)
        have i0:(0:Int)≤Int.tmod (x.1:Int) 2∧Int.tmod (x.1:Int) 2<((2:Nat):Int):=by rw [tmod2];omega
        rw [fw0 x.1 (by omega),fw1 x.1 (by omega),fwt x.1 (by omega)]
        refine br_intro (fun h=>⟨i0,⟨o2.w,o1.1.w⟩,br_intro (fun h'=>⟨i0,rfl,rfl,(x.1,false,x.2.2),⟨hxa,hx⟩,?_⟩) fun h'=>?_⟩) fun h=>⟨i0,⟨o3.w,o1.1.w⟩,br_intro (fun h'=>?_) fun h'=>⟨i0,rfl,rfl,(x.1,x.2.1,false),⟨hxa,hx⟩,?_⟩⟩
        · have h2:=eqI_true.1 h
          rw [tmod2] at h2
          have e1:Sm2 g t 0 (x.1+1)=addF (Sm2 g t 0 x.1) (Tm g t x.1):=if_pos (by omega)
          have e2:Sm2 g t 1 (x.1+1)=Sm2 g t 1 x.1:=if_neg (by omega)
          unfold LKeep.at smSt7
          rw [e1,e2];rfl
        · rw [h] at h';cases h'
        · rw [h] at h';cases h'
        · have h2:=eqI_false.1 h
          rw [tmod2] at h2
          have e1:Sm2 g t 1 (x.1+1)=addF (Sm2 g t 1 x.1) (Tm g t x.1):=if_pos (by omega)
          have e2:Sm2 g t 0 (x.1+1)=Sm2 g t 0 x.1:=if_neg (by omega)
          unfold LKeep.at smSt7
          rw [e1,e2];rfl
      · rw [ex,ew,v0 y.1 (by omega),hg,hpr]
        refine ⟨⟨by omega,by omega⟩,⟨rfl,hy,c5 y.1 hy0⟩,⟨by omega,by omega⟩,rfl,(y.1+1,y.2.1,y.2.2),hy0,?_,by show K-(y.1+1)<K-a.1;omega⟩
        rfl
    · cases e;exact hp.elim
theorem findK_spec{P:Nat→Bool}:∀ (n k j:Nat),k≤j→j<k+n→P j=true→k≤findK P n k∧findK P n k≤j∧P (findK P n k)=true∧∀ i,k≤i→i<findK P n k→P i=false
  | 0,k,j,h1,h2,_=>by omega
  | n+1,k,j,h1,h2,h3=>by
    unfold findK
    cases hk:P k with
    | true=>exact ⟨Nat.le_refl _,h1,hk,fun i a b=>by have b:i<k:=b;omega⟩
    | false =>
      have hne:k≠j:=fun e=>by rw [e,h3] at hk;cases hk
      obtain ⟨a,b,c,d⟩:=findK_spec n (k+1) j (by omega) (by omega) h3
      show k≤findK P n (k+1)∧findK P n (k+1)≤j∧P (findK P n (k+1))=true∧∀ i,k≤i→i<findK P n (k+1)→P i=false
      refine ⟨by omega,b,c,fun i x y=>?_⟩
      by_cases e:i=k
      · rw [e];exact hk
      · exact d i (by omega) y
structure Alt (f:Nat) (sq:Fx) (w:Int) (x:Rat):Prop where
  f1:1≤f
  f2:f≤2
  w0:32≤w
  w1:w≤65536
  hsq:InF w sq x
  he:sq.e≤16
  x0:0≤x
  x1:x≤1
abbrev altT(f:Nat)(sq:Fx)(w:Int):Nat→Fx:=Tm (stepA f sq w) ⟨2^w.toNat,0⟩
theorem div_anti{m a b:Int}(h:0≤m)(ha:0<a)(hab:a≤b):m/b≤m/a:=by
  refine Int.le_ediv_of_mul_le ha ?_
  have q:=Int.ediv_nonneg h (show 0≤b by omega)
  have:=imL hab q
  have:=Int.ediv_mul_le m (show b≠0 by omega)
  omega
section
variable {f:Nat} {sq:Fx} {w:Int} {x:Rat}
theorem rat_nat(n:Nat):((n:Int):Rat)=(n:Rat):=Rat.intCast_natCast n
theorem InF.one{w:Int}(h:0≤w):InF w ⟨2^w.toNat,0⟩ 1:=by
  have p:=two_pow_pos w.toNat
  have e:=p2_toNat h
  refine ⟨show 0≤2^w.toNat by omega,Int.le_refl _,?_,?_⟩
  · show ((2^w.toNat:Int):Rat)≤_;rw [←e];grind
  · show _≤((2^w.toNat+0:Int):Rat);rw [Int.add_zero,←e];grind
theorem stepA_eq(f k:Nat)(sq:Fx)(w:Int)(t:Fx):stepA f sq w t ((k+1:Nat):Int)=shortF (shortF (mulF t sq w) ((f+2*k:Nat):Int)) ((f+2*k+1:Nat):Int):=by
  unfold stepA
  rw [show (f:Int)+2*(((k+1:Nat):Int)-1)=((f+2*k:Nat):Int) by omega,show ((f+2*k:Nat):Int)+1=((f+2*k+1:Nat):Int) by omega]
theorem altT_in(h:Alt f sq w x):∀ k,InF w (altT f sq w k) (tmf f x k)
  | 0=>InF.one (by have:=h.w0;omega)
  | k+1=>by
    have ih:=altT_in h k
    show InF w (stepA f sq w (altT f sq w k) ((k+1:Nat):Int)) _
    rw [stepA_eq,tmf,←rat_nat,←rat_nat]
    have f1:=h.f1
    exact ((ih.mul (by have:=h.w0;omega) h.hsq).short (by omega)).short (by omega)
theorem p2_32{w:Int}(h:32≤w):(4294967296:Int)≤2^w.toNat:=by
  have:=two_pow_le (j:=32) (k:=w.toNat) (by omega)
  have e:(2:Int)^32=4294967296:=rfl
  omega
theorem InF.le_one{w:Int}{z:Fx}{r:Rat}(hw:0≤w)(h:InF w z r)(hr:r≤1):z.a≤2^w.toNat:=by
  have e:=p2_toNat hw
  have p:=p2_pos w
  have h1:=h.2.2.1
  have h2:=rmR hr (rlL p)
  rw [Rat.one_mul] at h2
  exact cast_le.1 (by rw [←e];grind)
theorem tmf_le1(f1:1≤f)(x0:0≤x)(x1:x≤1)(k:Nat):tmf f x k≤1:=by
  have h:=tmf_le f1 x0 x1 k
  have:=hf_le (Nat.zero_le k)
  rw [hf_zero] at this
  grind
theorem altT_e(h:Alt f sq w x):∀ k,(altT f sq w k).e≤16
  | 0=>by show (0:Int)≤16;omega
  | k+1=>by
    have ih:=altT_e h k
    have hin:=altT_in h k
    have w0:=h.w0
    have P:=p2_32 w0
    have he:=h.he
    have f1:=h.f1
    show (stepA f sq w (altT f sq w k) ((k+1:Nat):Int)).e≤16
    rw [stepA_eq]
    have a1:=hin.le_one (by omega) (tmf_le1 h.f1 h.x0 h.x1 k)
    have a2:=h.hsq.le_one (by omega) h.x1
    have hs:(altT f sq w k).e*sq.e≤2^w.toNat:=by
      have:=Int.mul_le_mul ih he h.hsq.2.1 (by omega)
      omega
    have mm:=mulF_e (w:=w) hin.2.1 h.hsq.2.1 a1 a2 hs
    show ((mulF (altT f sq w k) sq w).e/((f+2*k:Nat):Int)+2)/((f+2*k+1:Nat):Int)+2≤16
    have m0:0≤(mulF (altT f sq w k) sq w).e:=(hin.mul (by omega) h.hsq).2.1
    generalize (mulF (altT f sq w k) sq w).e=m at *
    by_cases hk:k=0
    · subst hk
      have hf:((f+2*0:Nat):Int)=1∨((f+2*0:Nat):Int)=2:=by have:=h.f2;omega
      have e0:(altT f sq w 0).e=0:=rfl
      rw [e0] at mm
      rcases hf with hf | hf
      · rw [hf,show ((f+2*0+1:Nat):Int)=2 by omega];omega
      · rw [hf,show ((f+2*0+1:Nat):Int)=3 by omega];omega
    · have d1:m/((f+2*k:Nat):Int)≤m/3:=div_anti (a:=3) (b:=((f+2*k:Nat):Int)) m0 (by omega) (by omega)
      have q0:=Int.ediv_nonneg m0 (show (0:Int)≤((f+2*k:Nat):Int) by omega)
      have d2:(m/((f+2*k:Nat):Int)+2)/((f+2*k+1:Nat):Int)≤(m/((f+2*k:Nat):Int)+2)/4:=div_anti (a:=4) (b:=((f+2*k+1:Nat):Int)) (by omega) (by omega) (by omega)
      omega
theorem InF.a0{z:Fx}{r:Rat}(h:InF w z r):0≤z.a:=h.1
theorem InF.e0{z:Fx}{r:Rat}(h:InF w z r):0≤z.e:=h.2.1
theorem altT_half(h:Alt f sq w x)(k:Nat):2*(altT f sq w (k+1)).a≤(altT f sq w k).a:=by
  have hin:=altT_in h k
  have w0:=h.w0
  have f1:=h.f1
  have a2:=h.hsq.le_one (by omega) h.x1
  have p:=two_pow_pos w.toNat
  show 2*(stepA f sq w (altT f sq w k) ((k+1:Nat):Int)).a≤_
  rw [stepA_eq]
  show 2*((altT f sq w k).a*sq.a/2^w.toNat/((f+2*k:Nat):Int)/((f+2*k+1:Nat):Int))≤_
  have m0:=Int.mul_nonneg hin.a0 h.hsq.a0
  have q0:=Int.ediv_nonneg m0 (show (0:Int)≤2^w.toNat by omega)
  have q1:(altT f sq w k).a*sq.a/2^w.toNat≤(altT f sq w k).a:=Int.ediv_le_of_le_mul p (imL a2 hin.a0)
  generalize (altT f sq w k).a*sq.a/2^w.toNat=q at *
  have d1:q/((f+2*k:Nat):Int)≤q:=Int.ediv_le_self _ q0
  have d0:=Int.ediv_nonneg q0 (show (0:Int)≤((f+2*k:Nat):Int) by omega)
  have d2:q/((f+2*k:Nat):Int)/((f+2*k+1:Nat):Int)≤q/((f+2*k:Nat):Int)/2:=div_anti (a:=2) (b:=((f+2*k+1:Nat):Int)) d0 (by omega) (by omega)
  omega
theorem altT_small(h:Alt f sq w x)(k:Nat):(altT f sq w k).a*2^k≤2^w.toNat:=by
  induction k with
  | zero=>show (2:Int)^w.toNat*2^0≤_;omega
  | succ k ih =>
    have:=altT_half h k
    have p:=two_pow_pos k
    have e:(altT f sq w (k+1)).a*2^(k+1)=(2*(altT f sq w (k+1)).a)*2^k:=by rw [Int.pow_succ,Int.mul_comm (2^k),←Int.mul_assoc,Int.mul_comm _ 2]
    rw [e]
    exact Int.le_trans (imR this (by omega)) ih
theorem altT_end(h:Alt f sq w x):(altT f sq w (w.toNat+1)).a=0:=by
  have h1:=altT_small h (w.toNat+1)
  have h0:=(altT_in h (w.toNat+1)).a0
  have p:=two_pow_pos w.toNat
  rw [Int.pow_succ] at h1
  by_cases e:(altT f sq w (w.toNat+1)).a=0
  · exact e
  · have:=imR (show 1≤(altT f sq w (w.toNat+1)).a by omega) (show (0:Int)≤2^w.toNat*2 by omega)
    omega
abbrev altK(f:Nat)(sq:Fx)(w:Int):Nat:=stopK (stepA f sq w) ⟨2^w.toNat,0⟩
theorem altK_spec(h:Alt f sq w x):1≤altK f sq w∧(altK f sq w:Int)≤w+1∧(altT f sq w (altK f sq w)).a=0∧∀ k,1≤k→k<altK f sq w→(altT f sq w k).a≠0:=by
  have w0:=h.w0
  have w1:=h.w1
  obtain ⟨a,b,c,d⟩:=findK_spec (P:=fun k=>decide ((altT f sq w k).a=0)) 1048576 1 (w.toNat+1) (by omega) (by omega) (by simpa using altT_end h)
  refine ⟨a,?_,of_decide_eq_true c,fun k h1 h2=>of_decide_eq_false (d k h1 h2)⟩
  have b:altK f sq w≤w.toNat+1:=b
  omega
abbrev altM(f:Nat)(sq:Fx)(w:Int)(b:Nat):Nat→Fx:=Sm2 (stepA f sq w) ⟨2^w.toNat,0⟩ b
theorem InF.zero(w:Int):InF w ⟨0,0⟩ 0:=⟨Int.le_refl _,Int.le_refl _,by rw [Rat.zero_mul];exact Rat.le_refl,by rw [Rat.zero_mul];exact Rat.le_refl⟩
theorem altM_in(h:Alt f sq w x)(b:Nat):∀ k,InF w (altM f sq w b k) (parS b f x k)
  | 0=>InF.zero w
  | k+1=>by
    have ih:=altM_in h b k
    have e:parS b f x (k+1)=parS b f x k+(if k % 2=b then tmf f x k else 0):=rfl
    rw [e]
    show InF w (if k % 2=b then addF (altM f sq w b k) (altT f sq w k) else altM f sq w b k) _
    split
    · exact ih.add (altT_in h k)
    · rw [Rat.add_zero];exact ih
theorem altM_e(h:Alt f sq w x)(b:Nat):∀ k,(altM f sq w b k).e≤16*(k:Int)
  | 0=>by show (0:Int)≤_;omega
  | k+1=>by
    have ih:=altM_e h b k
    have:=altT_e h k
    show (if k % 2=b then addF (altM f sq w b k) (altT f sq w k) else altM f sq w b k).e≤_
    split
    · show (altM f sq w b k).e+(altT f sq w k).e≤_;omega
    · omega
theorem altM_a(h:Alt f sq w x)(b:Nat):∀ k,(altM f sq w b k).a+2*(altT f sq w k).a≤2*2^w.toNat
  | 0=>by show (0:Int)+2*2^w.toNat≤_;omega
  | k+1=>by
    have ih:=altM_a h b k
    have:=altT_half h k
    have t0:=(altT_in h k).a0
    show (if k % 2=b then addF (altM f sq w b k) (altT f sq w k) else altM f sq w b k).a+_≤_
    split
    · show (altM f sq w b k).a+(altT f sq w k).a+_≤_;omega
    · omega
theorem altT_q(h:Alt f sq w x)(n:Nat):4*(altT f sq w (n+1+1)).a≤(altT f sq w (n+1)).a:=by
  have hin:=altT_in h (n+1)
  have w0:=h.w0
  have f1:=h.f1
  have a2:=h.hsq.le_one (by omega) h.x1
  have p:=two_pow_pos w.toNat
  show 4*(stepA f sq w (altT f sq w (n+1)) ((n+1+1:Nat):Int)).a≤_
  rw [stepA_eq]
  show 4*((altT f sq w (n+1)).a*sq.a/2^w.toNat/((f+2*(n+1):Nat):Int)/((f+2*(n+1)+1:Nat):Int))≤_
  have m0:=Int.mul_nonneg hin.a0 h.hsq.a0
  have q0:=Int.ediv_nonneg m0 (show (0:Int)≤2^w.toNat by omega)
  have q1:(altT f sq w (n+1)).a*sq.a/2^w.toNat≤(altT f sq w (n+1)).a:=Int.ediv_le_of_le_mul p (imL a2 hin.a0)
  generalize (altT f sq w (n+1)).a*sq.a/2^w.toNat=q at *
  have d1:q/((f+2*(n+1):Nat):Int)≤q:=Int.ediv_le_self _ q0
  have d0:=Int.ediv_nonneg q0 (show (0:Int)≤((f+2*(n+1):Nat):Int) by omega)
  have d2:q/((f+2*(n+1):Nat):Int)/((f+2*(n+1)+1:Nat):Int)≤q/((f+2*(n+1):Nat):Int)/4:=div_anti (a:=4) (b:=((f+2*(n+1)+1:Nat):Int)) d0 (by omega) (by omega)
  omega
theorem altR_le(h:Alt f sq w x){K:Nat}(hK:1≤K)(hK1:(K:Int)≤w+2):2^w.toNat≤(altM f sq w 0 K).a∧3*(altM f sq w 1 K).a≤2*2^w.toNat:=by
  constructor
  · -- the first term lies in it
    have key:∀ n,2^w.toNat≤(altM f sq w 0 (n+1)).a:=by
      intro n
      induction n with
      | zero=>show (2:Int)^w.toNat≤(addF ⟨0,0⟩ ⟨2^w.toNat,0⟩).a;show (2:Int)^w.toNat≤0+2^w.toNat;omega
      | succ n ih =>
        have t0:=(altT_in h (n+1)).a0
        show _≤(if (n+1) % 2=0 then addF (altM f sq w 0 (n+1)) (altT f sq w (n+1)) else altM f sq w 0 (n+1)).a
        split
        · show _≤(altM f sq w 0 (n+1)).a+(altT f sq w (n+1)).a;omega
        · exact ih
    obtain ⟨n,rfl⟩:∃ n,K=n+1:=⟨K-1,by omega⟩
    exact key n
  · -- the second term is at most a half,the others fall by fourths
    have t1:=altT_half h 0
    have key:∀ n,3*(altM f sq w 1 (n+1)).a+4*(altT f sq w (n+1)).a≤2*2^w.toNat:=by
      intro n
      induction n with
      | zero =>
        show 3*(0:Int)+_≤_
        have e:(altT f sq w 0).a=2^w.toNat:=rfl
        omega
      | succ n ih =>
        have t0:=(altT_in h (n+1+1)).a0
        have t2:=altT_q h n
        show 3*(if (n+1) % 2=1 then addF (altM f sq w 1 (n+1)) (altT f sq w (n+1)) else altM f sq w 1 (n+1)).a+_≤_
        split
        · show 3*((altM f sq w 1 (n+1)).a+(altT f sq w (n+1)).a)+_≤_;omega
        · omega
    obtain ⟨n,rfl⟩:∃ n,K=n+1:=⟨K-1,by omega⟩
    have:=key n
    have:=(altT_in h (n+1)).a0
    omega
def altD(f:Nat)(sq:Fx)(w:Int)(K:Nat)(c:Int):Fx:=subF (widerF (altM f sq w 0 K) c) (widerF (altM f sq w 1 K) c)
theorem altD_bd(h:Alt f sq w x){K:Nat}(hK:1≤K)(hK1:(K:Int)≤w+2){c:Int}(c0:0≤c)(c1:c≤32) :
    2^w.toNat≤4*(altD f sq w K c).a∧0≤(altD f sq w K c).e∧(altD f sq w K c).e≤4194304∧(altD f sq w K c).a+(altD f sq w K c).e≤3*2^w.toNat:=by
  obtain ⟨h1,h2⟩:=altR_le h hK hK1
  have w0:=h.w0
  have w1:=h.w1
  have P:=p2_32 w0
  have e0:=altM_e h 0 K
  have e1:=altM_e h 1 K
  have z0:=(altM_in h 0 K).e0
  have z1:=(altM_in h 1 K).e0
  have y1:=(altM_in h 1 K).a0
  have t0:=(altT_in h K).a0
  have a0:=altM_a h 0 K
  have ea:(altD f sq w K c).a=(altM f sq w 0 K).a-((altM f sq w 1 K).a+((altM f sq w 1 K).e+c)):=rfl
  have ee:(altD f sq w K c).e=(altM f sq w 0 K).e+c+((altM f sq w 1 K).e+c):=rfl
  rw [ea,ee]
  refine ⟨by omega,by omega,by omega,by omega⟩
theorem div_p2(n:Int)(w:Int):(n:Rat)*p2 (-w)*p2 w=(n:Rat):=by rw [Rat.mul_assoc,p2_neg,Rat.mul_one]
theorem le_div_p2{n w:Int}{r:Rat}(h:(n:Rat)≤r*p2 w):(n:Rat)*p2 (-w)≤r:=by
  rw [←mul_p2_le w,div_p2];exact h
theorem div_p2_le{n w:Int}{r:Rat}(h:r*p2 w≤(n:Rat)):r≤(n:Rat)*p2 (-w):=by
  rw [←mul_p2_le w,div_p2];exact h
theorem altD_enc(h:Alt f sq w x){K:Nat}(hK:1≤K){c:Int}(hc:12*(tmf f x K*p2 w)≤11*(c:Rat)) :
    Enc (altS f x) (((altD f sq w K c).a:Rat)*p2 (-w)) ((((altD f sq w K c).a+(altD f sq w K c).e:Int):Rat)*p2 (-w)):=by
  obtain ⟨_,_,p1,p2'⟩:=altM_in h 0 K
  obtain ⟨_,_,q1,q2⟩:=altM_in h 1 K
  have pw:=p2_pos (-w)
  have hr:12*tmf f x K≤11*((c:Rat)*p2 (-w)):=by
    rw [←mul_p2_le w]
    have e1:12*tmf f x K*p2 w=12*(tmf f x K*p2 w):=by grind
    have e2:11*((c:Rat)*p2 (-w))*p2 w=11*(c:Rat):=by rw [Rat.mul_assoc,div_p2]
    rw [e1,e2];exact hc
  have H:=altS_enc h.f1 h.x0 h.x1 hK (le_div_p2 p1) (div_p2_le p2') (le_div_p2 q1) (div_p2_le q2) hr
  have ea:(altD f sq w K c).a=(altM f sq w 0 K).a-((altM f sq w 1 K).a+((altM f sq w 1 K).e+c)):=rfl
  have ee:(altD f sq w K c).a+(altD f sq w K c).e=(altM f sq w 0 K).a+(altM f sq w 0 K).e+c-(altM f sq w 1 K).a:=by
    show (altM f sq w 0 K).a-((altM f sq w 1 K).a+((altM f sq w 1 K).e+c))+((altM f sq w 0 K).e+c+((altM f sq w 1 K).e+c))=_
    omega
  rw [ee,ea]
  refine H.wide ?_ ?_
  · rw [Rat.intCast_sub,rcA,rcA,rcA];grind
  · rw [Rat.intCast_sub,rcA,rcA];grind
theorem tmf_end(h:Alt f sq w x):tmf f x (altK f sq w)*p2 w≤16:=by
  obtain ⟨_,_,h3,_⟩:=altK_spec h
  have h4:=(altT_in h (altK f sq w)).2.2.2
  rw [h3,Int.zero_add] at h4
  have:=cast_le.2 (altT_e h (altK f sq w))
  have e:((16:Int):Rat)=16:=rfl
  grind
theorem blen_pow_le{n:Int}{k:Nat}(h:n≤2^k):blen n≤k+1:=blen_le (Int.lt_of_le_of_lt h (two_pow_lt (by omega)))
theorem altT_ok(h:Alt f sq w x)(k:Nat):(altT f sq w k).Ok∧(altT f sq w k).e≤549755813888:=by
  have hin:=altT_in h k
  have he:=altT_e h k
  have w0:=h.w0
  have w1:=h.w1
  have a1:=hin.le_one (by omega) (tmf_le1 h.f1 h.x0 h.x1 k)
  have:=blen_pow_le a1
  exact ⟨⟨hin.a0,by omega,hin.e0,by omega⟩,by omega⟩
theorem altM_ok(h:Alt f sq w x)(b:Nat){k:Nat}(hk:(k:Int)≤w+2):(altM f sq w b k).Ok:=by
  have hin:=altM_in h b k
  have he:=altM_e h b k
  have ha:=altM_a h b k
  have t0:=(altT_in h k).a0
  have w0:=h.w0
  have w1:=h.w1
  have:blen (altM f sq w b k).a≤w.toNat+1+1:=blen_pow_le (by rw [Int.pow_succ];omega)
  exact ⟨hin.a0,by omega,hin.e0,by omega⟩
theorem altSum_ok(h:Alt f sq w x)(hs:sq.Ok):SumOk (stepA f sq w) (preA f sq w) ⟨2^w.toNat,0⟩:=by
  obtain ⟨k1,k2,k3,k4⟩:=altK_spec h
  have w0:=h.w0
  have w1:=h.w1
  have f1:=h.f1
  have f2:=h.f2
  refine ⟨k1,by have k2:((stopK (stepA f sq w) ⟨2^w.toNat,0⟩:Nat):Int)≤w+1:=k2;omega,k3,k4,fun k hk=>?_,fun k hk=>⟨altT_ok h k,altM_ok h 0 ?_,altM_ok h 1 ?_⟩⟩
  · have hin:=altT_in h k
    have he:=altT_e h k
    have hh:=h.he
    have P:=p2_32 w0
    have a1:=hin.le_one (by omega) (tmf_le1 h.f1 h.x0 h.x1 k)
    have a2:=h.hsq.le_one (by omega) h.x1
    have hs':(altT f sq w k).e*sq.e≤2^w.toNat:=by
      have:=Int.mul_le_mul he hh h.hsq.2.1 (by omega)
      omega
    have m:=mulF_e (w:=w) hin.e0 h.hsq.e0 a1 a2 hs'
    have k2:((stopK (stepA f sq w) ⟨2^w.toNat,0⟩:Nat):Int)≤w+1:=k2
    exact ⟨(altT_ok h k).1,hs,by omega,by omega,by show (mulF (altT f sq w k) sq w).e≤_;omega,by omega,by omega,by omega,by omega⟩
  · have k2:((stopK (stepA f sq w) ⟨2^w.toNat,0⟩:Nat):Int)≤w+1:=k2;omega
  · have k2:((stopK (stepA f sq w) ⟨2^w.toNat,0⟩:Nat):Int)≤w+1:=k2;omega
end
theorem log2_up:∀ (n:Nat) (e:Int) (q:Rat),p2 e≤q→q<p2 (e+(n:Int)+1)→∃ k:Int,p2 k≤q∧q<p2 (k+1)
  | 0,e,q,h1,h2=>⟨e,h1,by rwa [show e+((0:Nat):Int)+1=e+1 by omega] at h2⟩
  | n+1,e,q,h1,h2=>by
    rcases (show q<p2 (e+1)∨p2 (e+1)≤q by grind) with h | h
    · exact ⟨e,h1,h⟩
    · exact log2_up n (e+1) q h (by rwa [show e+1+(n:Int)+1=e+((n+1:Nat):Int)+1 by omega])
theorem log2_ex{q:Rat}(h:0<q):∃ k:Int,p2 k≤q∧q<p2 (k+1):=by
  have hn:0<q.num:=by have:=(Rat.lt_iff 0 q).1 h;simpa using this
  have hd:(0:Rat)<((q.den:Int):Rat):=cast_ne (by have:=q.den_pos;omega)
  have e:q*((q.den:Int):Rat)=(q.num:Rat):=by
    have h1:=Rat.mkRat_self q
    rw [Rat.mkRat_eq_div,Rat.div_def,←Rat.intCast_natCast] at h1
    have h2:=Rat.inv_mul_cancel ((q.den:Int):Rat) (by grind)
    conv=>lhs;lhs;rw [←h1]
    rw [Rat.mul_assoc,h2,Rat.mul_one]
  have a1:=amt_lt (m:=q.num) (e:=0)
  have a2:=amt_ge (m:=q.num) (e:=0) hn
  have b1:=amt_lt (m:=(q.den:Int)) (e:=0)
  rw [p2_zero,Rat.mul_one] at a1 a2 b1
  have d1:(1:Rat)≤((q.den:Int):Rat):=by
    have:=cast_le.2 (show (1:Int)≤(q.den:Int) by have:=q.den_pos;omega)
    exact this
  have u:q<p2 (0+(blen q.num:Int)):=by
    have:=rmL d1 (rlL h)
    grind
  have l:p2 (-(0+(blen (q.den:Int):Int)))≤q:=by
    have p:=p2_pos (0+(blen (q.den:Int):Int))
    rw [←Rat.not_lt,←Rat.mul_lt_mul_right p,p2_neg]
    have h1:(1:Rat)≤(q.num:Rat):=cast_le.2 (show (1:Int)≤q.num by omega)
    have:=rmL (rlL b1) (rlL h)
    grind
  exact log2_up (blen q.num+blen (q.den:Int)) _ q l (by have:=p2_le (show (0:Int)+(blen q.num:Int)≤-(0+(blen (q.den:Int):Int))+((blen q.num+blen (q.den:Int):Nat):Int)+1 by omega);grind)
def eps(p:Int):Rat:=p2 (1-p)
theorem eps_pos(p:Int):0<eps p:=p2_pos _
theorem rat_floor{q:Rat}(hq:0≤q)(j:Int):∃ k:Int,0≤k∧(k:Rat)*p2 j≤q∧q<((k+1:Int):Rat)*p2 j:=by
  refine ⟨(q*p2 (-j)).floor,?_,?_,?_⟩
  · have:=rmN hq (rlL (p2_pos (-j)))
    exact Rat.le_floor_iff.2 (by simpa using this)
  · have h:=rmR (Rat.floor_le (q*p2 (-j))) (rlL (p2_pos j))
    rwa [Rat.mul_assoc,p2_neg,Rat.mul_one] at h
  · have h:=(mul_p2_lt j).2 (Rat.lt_floor_add_one (q*p2 (-j)))
    rw [Rat.mul_assoc,p2_neg,Rat.mul_one] at h
    exact h
theorem Dn.rel{p:Int}{q r:Rat}(h:Dn p q r)(hp:1≤p)(hq:0<q):q-eps p*q≤r∧0<r:=by
  obtain ⟨k,k1,k2⟩:=log2_ex hq
  obtain ⟨n,n0,n1,n2⟩:=rat_floor (rlL hq) (k+1-p)
  have hP:(2:Int)^(p-1).toNat≤n:=by
    have e:p2 (p-1)*p2 (k+1-p)=p2 k:=by rw [←p2_add];congr 1;omega
    have:p2 (p-1)<((n+1:Int):Rat):=by
      rw [←mul_p2_lt (k+1-p),e];grind
    rw [p2_toNat (by omega)] at this
    have:=cast_lt.1 this
    omega
  have r1:(n:Rat)*p2 (k+1-p)≤r:=by
    refine h.2.2 _ ?_ n1
    refine ⟨n,_,rfl,?_,?_⟩
    · have e:p2 p*p2 (k+1-p)=p2 (k+1):=by rw [←p2_add];congr 1;omega
      rw [←mul_p2_lt (k+1-p),e];grind
    · have:=p2_pos p
      have:(0:Rat)≤(n:Rat):=cast_le.2 n0
      grind
  have e1:p2 (k+1-p)=eps p*p2 k:=by unfold eps;rw [←p2_add];congr 1;omega
  have g1:=rmL k1 (rlL (eps_pos p))
  have e2:((n+1:Int):Rat)*p2 (k+1-p)=(n:Rat)*p2 (k+1-p)+p2 (k+1-p):=by
    rw [rcA];show ((n:Rat)+1)*_=_;grind
  have np:(0:Rat)<(n:Rat):=cast_ne (by have:=two_pow_pos (p-1).toNat;omega)
  have:=Rat.mul_pos np (p2_pos (k+1-p))
  exact ⟨by grind,by grind⟩
theorem Up.rel{p:Int}{q r:Rat}(h:Up p q r)(hp:1≤p)(hq:0<q):r≤q+eps p*q:=by
  obtain ⟨k,k1,k2⟩:=log2_ex hq
  obtain ⟨n,n0,n1,n2⟩:=rat_floor (rlL hq) (k+1-p)
  have e1:p2 (k+1-p)=eps p*p2 k:=by unfold eps;rw [←p2_add];congr 1;omega
  have g1:=rmL k1 (rlL (eps_pos p))
  have e2:((n+1:Int):Rat)*p2 (k+1-p)=(n:Rat)*p2 (k+1-p)+p2 (k+1-p):=by
    rw [rcA];show ((n:Rat)+1)*_=_;grind
  have e:p2 p*p2 (k+1-p)=p2 (k+1):=by rw [←p2_add];congr 1;omega
  have hn:(n:Rat)<p2 p:=by rw [←mul_p2_lt (k+1-p),e];grind
  have nn:(0:Rat)≤(n:Rat):=cast_le.2 n0
  rcases (show (((n+1:Int):Rat)<p2 p)∨p2 p≤((n+1:Int):Rat) by grind) with hl | hl
  · have r1:r≤((n+1:Int):Rat)*p2 (k+1-p):=by
      refine h.2.2 _ ⟨n+1,_,rfl,hl,?_⟩ (rlL n2)
      have:=p2_pos p
      have:(0:Rat)≤((n+1:Int):Rat):=cast_le.2 (show (0:Int)≤n+1 by omega)
      grind
    grind
  · -- n+1 is a power of 2
    have r1:r≤p2 (k+1):=by
      refine h.2.2 _ ⟨1,k+1,?_,?_,?_⟩ (rlL k2)
      · show _=(1:Rat)*_;rw [Rat.one_mul]
      · have:=p2_lt (show (0:Int)<p by omega);rw [p2_zero] at this;exact this
      · have:=p2_pos p;show -(p2 p)<(1:Rat);grind
    have g:=rmR hl (rlL (p2_pos (k+1-p)))
    rw [e] at g
    grind
def Nar(δ a b:Rat):Prop:=0<a∧a≤b∧b≤a+δ*a
theorem Nar.mono{δ η a b:Rat}(h:Nar δ a b)(k:δ≤η):Nar η a b:=by
  have:=rmR k (rlL h.1)
  exact ⟨h.1,h.2.1,by have:=h.2.2;grind⟩
theorem Nar.self{a:Rat}(h:0<a):Nar 0 a a:=⟨h,Rat.le_refl,by grind⟩
theorem Nar.trim{δ a b a' b':Rat}{p:Int}(h:Nar δ a b)(d0:0≤δ)(hp:1≤p)(he:4*eps p≤1)(ha:Dn p a a')(hb:Up p b b'):Nar (2*δ+4*eps p) a' b':=by
  obtain ⟨a0,h1,h2⟩:=h
  have r1:=ha.rel hp a0
  have r2:=hb.rel hp (show 0<b by grind)
  have e0:=eps_pos p
  have l1:=ha.2.1
  have l2:=hb.2.1
  refine ⟨r1.2,by grind,?_⟩
  generalize eps p=ε at *
  have s1:a≤a' + 2*ε*a':=by
    have m1:=rmL r1.1 (show (0:Rat)≤1+2*ε by grind)
    have m2:=rmL (show 2*ε≤1 by grind) (rmN (rlL e0) (rlL a0))
    grind
  have s2:b+ε*b≤(1+δ)*(1+ε)*a:=by
    have:=rmL h2 (show (0:Rat)≤1+ε by grind)
    grind
  have s3:=rmL s1 (rmN (show (0:Rat)≤1+δ by grind) (show (0:Rat)≤1+ε by grind))
  have q1:(1+ε)*(1+2*ε)≤1+4*ε:=by
    have:=rmL (show 2*ε≤1 by grind) (rlL e0)
    grind
  have q2:(1+δ)*(1+4*ε)≤1+(2*δ+4*ε):=by
    have:=rmL he d0
    grind
  have q3:=rmL q1 (show (0:Rat)≤1+δ by grind)
  have q4:=rmR (show (1+δ)*((1+ε)*(1+2*ε))≤1+(2*δ+4*ε) by grind) (rlL r1.2)
  have e5:(1+δ)*(1+ε)*(a' + 2*ε*a')=(1+δ)*((1+ε)*(1+2*ε))*a':=by grind
  grind
theorem Nar.mul{δ η a b c d:Rat}(h:Nar δ a b)(k:Nar η c d)(d0:0≤δ)(_:0≤η):Nar (δ+η+δ*η) (a*c) (b*d):=by
  obtain ⟨a0,h1,h2⟩:=h
  obtain ⟨c0,k1,k2⟩:=k
  have m1:=rmR h1 (rlL c0)
  have m2:=rmL k1 (show 0≤b by grind)
  have m3:=rmR h2 (show 0≤d by grind)
  have g:=rmN d0 (rlL a0)
  have m4:=rmL k2 (show 0≤a+δ*a by grind)
  exact ⟨Rat.mul_pos a0 c0,by grind,by grind⟩
def nShortU:Spec:=specK [.w,.i .u64] fun (xs:List Int) (d:Int)=>(some (0<d∧d≤4294967296),wT (ws (val xs/d)))
theorem nShortU_ok:SpecOk Tryz.prog 111 nShortU :=
  handK_ok Tryz.func111 rfl (by decide) fun _ _ hC hX _=>fun _ _ _ h d _ v h' hp=>by
    obtain rfl:=repS_int h'
    have h0:0<d:=hp.1
    have h1:d≤4294967296:=hp.2
    exact nat_back hC hX (short3u_calls (rep_natAt h) ⟨by omega,by omega⟩ h0 h1)
def sN9:List (FuncId×Spec):=(111,nShortU) :: sRef3
theorem sN9_ok:SpecsOk Tryz.prog sN9:=⟨nShortU_ok,sRef3_ok⟩
def niOne:Spec:=specK [.i .i64] fun (q:Int)=>(some (0≤q∧q≤16777216),fxT ⟨2^q.toNat,0⟩)
theorem niOne_vc(q:Int)(Q:Tv→Prop):execF ⟨tys3,sN9⟩ (fun _=>none) 0 Tryz.f72 [.one (.int .i64 q)] Q=(Word 1∧((0:Int)≤q∧q≤1099511627776∧List.length (ws 1)≤8796093022208)∧Q (Tv.sv (Sv.agg [At.words true (ws (val (ws 1)*2^Int.toNat q)),At.int .u64 0]))):=by kernel_rfl
theorem niOne_ok:SpecOk Tryz.prog 72 niOne :=
  specKW_ok (envOk tys3_ok sN9_ok) mixed Tryz.func72 rfl (by decide) (by decide) fun (q:Int) _ hp=>⟨fun _=>none,0,by
    obtain ⟨h0,h1⟩:0≤q∧q≤16777216:=hp
    refine (niOne_vc q _).mpr ?_
    rw [val_ws_one,Int.one_mul]
    exact ⟨word_one,⟨h0,by omega,by simp [ws_one]⟩,.inr rfl⟩⟩
def from9(d:Dx)(q:Int):Fx:=if 0≤d.e+q then ⟨d.m*2^(d.e+q).toNat,0⟩ else ⟨d.m/2^(-d.e-q).toNat,if lostB d.m (-d.e-q).toNat=true then 1 else 0⟩
def niFrom:Spec:=specK [.d,.i .i64] fun (d:Dx) (q:Int)=>(some (d.xs.length≤1073741824∧eB 68719476736 d∧0≤q∧q≤16777216),fxT (from9 d q))
theorem niFrom_vc(d:Dx)(q:Int)(Q:Tv→Prop):execF ⟨tys3,sN9⟩ (fun _=>none) 0 Tryz.f109 [.agg (dyL false d),.one (.int .i64 q)] Q=(inR (d.e+q)∧br (leI 0 (d.e+q)) (inR (d.e+q)∧((0:Int)≤d.e+q∧d.e+q≤1099511627776∧List.length d.xs≤8796093022208)∧Q (Tv.sv (Sv.agg [At.words true (ws (val d.xs*2^Int.toNat (d.e+q))),At.int .u64 0]))) (inR ((0:Int)-d.e)∧inR ((0:Int)-d.e-q)∧((0:Int)≤0-d.e-q∧(0:Int)-d.e-q≤9007199254740992)∧true=true∧br (lostB (val (ws (val d.xs))) (Int.toNat ((0:Int)-d.e-q))) (Q (Tv.sv (Sv.agg [At.words true (ws (val (ws (val d.xs))/2^Int.toNat ((0:Int)-d.e-q))),At.int .u64 1]))) (Q (Tv.sv (Sv.agg [At.words true (ws (val (ws (val d.xs))/2^Int.toNat ((0:Int)-d.e-q))),At.int .u64 0]))))):=by kernel_rfl
theorem niFrom_ok:SpecOk Tryz.prog 109 niFrom :=
  specKW_ok (envOk tys3_ok sN9_ok) mixed Tryz.func109 rfl (by decide) (by decide) fun (d:Dx) hd (q:Int) _ hp=>⟨fun _=>none,0,by
    obtain ⟨h1,⟨h2,h3⟩,h4,h5⟩:d.xs.length≤1073741824∧eB 68719476736 d∧0≤q∧q≤16777216:=hp
    show execF _ _ _ _ _ (fun t=>t=fxT (from9 d q)∨fgT t=fxT (from9 d q))
    refine (niFrom_vc d q _).mpr ⟨⟨by omega,by omega⟩,br_intro (fun h=>⟨⟨by omega,by omega⟩,⟨leI_true.1 h,by omega,by omega⟩,.inr ?_⟩) fun h=>⟨⟨by omega,by omega⟩,⟨by omega,by omega⟩,⟨by have:=leI_false.1 h;omega,by omega⟩,rfl,?_⟩⟩
    · rw [from9,if_pos (leI_true.1 h)];rfl
    · rw [val_ws (WfW.val0 hd),Int.zero_sub,from9,if_neg (leI_false.1 h)]
      refine br_intro (fun h'=>.inr ?_) fun h'=>.inr ?_
      · unfold Dx.m;rw [h'];rfl
      · unfold Dx.m;rw [h'];rfl⟩
def niAdd:Spec:=specK [.fx,.fx] fun (x:Fw) (y:Fw)=>(some (x.Ok∧y.Ok),fxT (addF x.f y.f))
theorem niAdd_vc(x y:Fw)(Q:Tv→Prop):execF ⟨tys3,sN9⟩ (fun _=>none) 0 Tryz.f75 [.agg (fwL false x),.agg (fwL false y)] Q=((List.length x.xs≤17592186044414∧List.length y.xs≤17592186044414)∧true=true∧Q (Tv.sv (Sv.agg [At.words true (ws (val x.xs+val y.xs)),At.int .u64 (IntKind.wrap IntKind.u64 (x.e+y.e))]))):=by kernel_rfl
theorem niAdd_ok:SpecOk Tryz.prog 75 niAdd :=
  specKW_ok (envOk tys3_ok sN9_ok) mixed Tryz.func75 rfl (by decide) (by decide) fun (x:Fw) _ (y:Fw) _ hp=>⟨fun _=>none,0,by
    obtain ⟨⟨a1,a2,a3⟩,b1,b2,b3⟩:x.Ok∧y.Ok:=hp
    refine (niAdd_vc x y _).mpr ?_
    rw [wrap_w ⟨by omega,by omega⟩]
    exact ⟨⟨by omega,by omega⟩,rfl,.inr rfl⟩⟩
def niSub:Spec:=specK [.fx,.fx] fun (x:Fw) (y:Fw)=>(some (x.Ok∧y.Ok∧y.f.a+y.f.e≤x.f.a),fxT (subF x.f y.f))
theorem niSub_vc(x y:Fw)(Q:Tv→Prop):execF ⟨tys3,sN9⟩ (fun _=>none) 0 Tryz.f77 [.agg (fwL false x),.agg (fwL false y)] Q=(Word y.e∧(List.length y.xs≤17592186044414∧List.length (ws y.e)≤17592186044414)∧(val (ws (val y.xs+val (ws y.e)))≤val x.xs∧List.length x.xs≤17592186044414∧List.length (ws (val y.xs+val (ws y.e)))≤17592186044414)∧true=true∧Q (Tv.sv (Sv.agg [At.words true (ws (val x.xs-val (ws (val y.xs+val (ws y.e))))),At.int .u64 (IntKind.wrap IntKind.u64 (x.e+y.e))]))):=by kernel_rfl
theorem niSub_ok:SpecOk Tryz.prog 77 niSub :=
  specKW_ok (envOk tys3_ok sN9_ok) mixed Tryz.func77 rfl (by decide) (by decide) fun (x:Fw) hx (y:Fw) hy hp=>⟨fun _=>none,0,by
    obtain ⟨⟨a1,a2,a3⟩,yo,h⟩:x.Ok∧y.Ok∧y.f.a+y.f.e≤x.f.a:=hp
    have yl:=yo.len hy
    obtain ⟨b1,b2,b3⟩:=yo
    have:=ws_small b3
    refine (niSub_vc x y _).mpr ?_
    rw [val_ws b2,←y.f_a,←y.f_e,val_ws yl.2.1,wrap_w ⟨by rw [y.f_e];omega,by rw [y.f_e];omega⟩,y.f_e]
    exact ⟨⟨b2,by omega⟩,⟨by omega,by omega⟩,⟨h,by omega,by rw [←y.f_e];omega⟩,rfl,.inr rfl⟩⟩
def niHigh:Spec:=specK [.fx] fun (x:Fw)=>(some x.Ok,wT (ws (x.f.a+x.f.e)))
theorem niHigh_vc(x:Fw)(Q:Tv→Prop):execF ⟨tys3,sN9⟩ (fun _=>none) 0 Tryz.f110 [.agg (fwL false x)] Q=(Word x.e∧(List.length x.xs≤17592186044414∧List.length (ws x.e)≤17592186044414)∧true=true∧Q (Tv.sv (Sv.one (At.words true (ws (val x.xs+val (ws x.e))))))):=by kernel_rfl
theorem niHigh_ok:SpecOk Tryz.prog 110 niHigh :=
  specK_ok (envOk tys3_ok sN9_ok) mixed Tryz.func110 rfl (by decide) (by decide) fun (x:Fw) _ hp=>⟨fun _=>none,0,by
    obtain ⟨a1,a2,a3⟩:x.Ok:=hp
    refine (niHigh_vc x _).mpr ?_
    have:=ws_small a3
    rw [val_ws a2]
    exact ⟨⟨a2,by omega⟩,⟨by omega,by omega⟩,rfl,rfl⟩⟩
def niBtw:Spec:=specK [.w,.w] fun (xs:List Int) (ys:List Int)=>(some (val xs≤val ys∧val ys-val xs≤1099511627776∧xs=ws (val xs)∧xs.length≤17592186044414∧ys.length≤17592186044414),fxT (btwF (val xs) (val ys)))
theorem niBtw_vc(xs ys:List Int)(Q:Tv→Prop):execF ⟨tys3,sN9⟩ (fun _=>none) 0 Tryz.f112 [.one (.words false xs),.one (.words false ys)] Q=((val xs≤val ys∧List.length ys≤17592186044414∧List.length xs≤17592186044414)∧br (ltI 0 (↑(List.length (ws (val ys-val xs))):Int)) (((0:Int)≤0∧(0:Int)<(↑(List.length (ws (val ys-val xs))):Int))∧Q (Tv.sv (Sv.agg [At.words false xs,At.int .u64 (nth (ws (val ys-val xs)) 0)]))) (Q (Tv.sv (Sv.agg [At.words false xs,At.int .u64 0])))):=by kernel_rfl
theorem niBtw_ok:SpecOk Tryz.prog 112 niBtw :=
  specKW_ok (envOk tys3_ok sN9_ok) mixed Tryz.func112 rfl (by decide) (by decide) fun (xs:List Int) _ (ys:List Int) _ hp=>⟨fun _=>none,0,by
    obtain ⟨h1,h2,h3,h4,h5⟩:val xs≤val ys∧val ys-val xs≤1099511627776∧xs=ws (val xs)∧xs.length≤17592186044414∧ys.length≤17592186044414:=hp
    show execF _ _ _ _ _ (fun t=>t=fxT (btwF (val xs) (val ys))∨fgT t=fxT (btwF (val xs) (val ys)))
    refine (niBtw_vc xs ys _).mpr ⟨⟨h1,h5,h4⟩,?_⟩
    rw [len_pos (by omega)]
    refine br_intro (fun h=>⟨⟨by omega,?_⟩,.inl ?_⟩) fun h=>.inl ?_
    · have:=(len_pos (n:=val ys-val xs) (by omega)).trans h;exact ltI_true.1 this
    · rw [nth_ws0 (by simp at h;omega) (by omega)]
      show _=Tv.sv (.agg [.words false (ws (val xs)),.int .u64 (val ys-val xs)])
      rw [←h3]
    · have h:val ys-val xs=0:=by simpa using h
      show _=Tv.sv (.agg [.words false (ws (val xs)),.int .u64 (val ys-val xs)])
      rw [←h3,h]⟩
def niUp:Spec:=specK [.w,.i .i64] fun (xs:List Int) (q:Int)=>(some (0≤q∧q≤16777216∧(ws (val xs)).length≤17592186044414),wT (ws (upI (val xs) q.toNat)))
theorem niUp_vc(xs:List Int)(q:Int)(Q:Tv→Prop):execF ⟨tys3,sN9⟩ (fun _=>none) 0 Tryz.f113 [.one (.words false xs),.one (.int .i64 q)] Q=(((0:Int)≤q∧q≤9007199254740992)∧br (lostB (val xs) (Int.toNat q)) (Word 1∧(List.length (ws (val xs/2^Int.toNat q))≤17592186044414∧List.length (ws 1)≤17592186044414)∧Q (Tv.sv (Sv.one (At.words true (ws (val (ws (val xs/2^Int.toNat q))+val (ws 1))))))) (Q (Tv.sv (Sv.one (At.words true (ws (val xs/2^Int.toNat q))))))):=by kernel_rfl
theorem niUp_ok:SpecOk Tryz.prog 113 niUp :=
  specK_ok (envOk tys3_ok sN9_ok) mixed Tryz.func113 rfl (by decide) (by decide) fun (xs:List Int) hx (q:Int) _ hp=>⟨fun _=>none,0,by
    obtain ⟨h1,h2,h3⟩:0≤q∧q≤16777216∧(ws (val xs)).length≤17592186044414:=hp
    have p0:=two_pow_pos q.toNat
    have v0:=WfW.val0 hx
    have d0:=Int.ediv_nonneg v0 (show (0:Int)≤2^q.toNat by omega)
    have hl:(ws (val xs/2^q.toNat)).length≤(ws (val xs)).length:=ws_length_le (Int.lt_of_le_of_lt (Int.ediv_le_self _ v0) (lt_wpow_ws v0))
    refine (niUp_vc xs q _).mpr ⟨⟨h1,by omega⟩,?_⟩
    show br _ (_∧_∧_=wT (ws (upI (val xs) q.toNat))) (_=wT (ws (upI (val xs) q.toNat)))
    rw [upI_lost,val_ws d0,val_ws_one]
    refine br_intro (fun h=>⟨word_one,⟨by omega,by simp [ws_one]⟩,?_⟩) fun h=>?_
    · rw [h];rfl
    · rw [h,if_neg (by simp),Int.add_zero]⟩
def niSmall:Spec:=specK [.fx,.i .u64] fun (x:Fw) (d:Int)=>(some (0≤x.e∧x.e≤1099511627776∧0<d∧d≤4294967296),fxT (shortF x.f d))
theorem niSmall_vc(x:Fw)(d:Int)(Q:Tv→Prop):execF ⟨tys3,sN9⟩ (fun _=>none) 0 Tryz.f73 [.agg (fwL false x),.one (.int .u64 d)] Q=(((0:Int)<d∧d≤4294967296)∧d≠0∧true=true∧Q (Tv.sv (Sv.agg [At.words true (ws (val x.xs/d)),At.int .u64 (IntKind.wrap IntKind.u64 (IntKind.wrap IntKind.u64 (Int.tdiv x.e d)+2))]))):=by kernel_rfl
theorem niSmall_ok:SpecOk Tryz.prog 73 niSmall :=
  specKW_ok (envOk tys3_ok sN9_ok) mixed Tryz.func73 rfl (by decide) (by decide) fun (x:Fw) _ (d:Int) _ hp=>⟨fun _=>none,0,by
    obtain ⟨h0,h1,h2,h3⟩:0≤x.e∧x.e≤1099511627776∧0<d∧d≤4294967296:=hp
    have q0:=Int.ediv_nonneg h0 (show 0≤d by omega)
    have q1:=Int.ediv_le_self d h0
    refine (niSmall_vc x d _).mpr ?_
    rw [Int.tdiv_eq_ediv_of_nonneg h0,wrap_w (n:=x.e/d) ⟨q0,by omega⟩,wrap_w ⟨by omega,by omega⟩]
    exact ⟨⟨h2,h3⟩,by omega,rfl,.inr rfl⟩⟩
def sNi1:List (FuncId×Spec):=[(72,niOne),(109,niFrom),(75,niAdd),(77,niSub),(110,niHigh),(112,niBtw),(113,niUp),(73,niSmall)] ++ sRef3
theorem sNi1_ok:SpecsOk Tryz.prog sNi1:=⟨niOne_ok,niFrom_ok,niAdd_ok,niSub_ok,niHigh_ok,niBtw_ok,niUp_ok,niSmall_ok,sRef3_ok⟩
def niMul:Spec:=specK [.fx,.fx,.i .i64] fun (x:Fw) (y:Fw) (q:Int)=>(some (x.Ok∧y.Ok∧0≤q∧q≤16777216∧(mulF x.f y.f q).e≤1099511627776),fxT (mulF x.f y.f q))
theorem niMul_vc(x y:Fw)(q:Int)(Q:Tv→Prop):execF ⟨tys3,sNi1⟩ (fun _=>none) 0 Tryz.f74 [.agg (fwL false x),.agg (fwL false y),.one (.int .i64 q)] Q=(List.length (ws (val x.xs))+List.length (ws (val y.xs))≤17592186044414∧((0:Int)≤q∧q≤9007199254740992)∧Fw.Ok x∧Fw.Ok y∧List.length (ws (val (ws ((Fw.f x).a+(Fw.f x).e))))+List.length (ws (val (ws ((Fw.f y).a+(Fw.f y).e))))≤17592186044414∧((0:Int)≤q∧q≤16777216∧List.length (ws (val (ws (val (ws ((Fw.f x).a+(Fw.f x).e))*val (ws ((Fw.f y).a+(Fw.f y).e))))))≤17592186044414)∧(val (ws (val (ws (val x.xs*val y.xs))/2^Int.toNat q))≤val (ws (upI (val (ws (val (ws ((Fw.f x).a+(Fw.f x).e))*val (ws ((Fw.f y).a+(Fw.f y).e))))) (Int.toNat q)))∧val (ws (upI (val (ws (val (ws ((Fw.f x).a+(Fw.f x).e))*val (ws ((Fw.f y).a+(Fw.f y).e))))) (Int.toNat q)))-val (ws (val (ws (val x.xs*val y.xs))/2^Int.toNat q))≤1099511627776∧ws (val (ws (val x.xs*val y.xs))/2^Int.toNat q)=ws (val (ws (val (ws (val x.xs*val y.xs))/2^Int.toNat q)))∧List.length (ws (val (ws (val x.xs*val y.xs))/2^Int.toNat q))≤17592186044414∧List.length (ws (upI (val (ws (val (ws ((Fw.f x).a+(Fw.f x).e))*val (ws ((Fw.f y).a+(Fw.f y).e))))) (Int.toNat q)))≤17592186044414)∧true=true∧Q (Tv.sv (Sv.agg (fwL false (fw (btwF (val (ws (val (ws (val x.xs*val y.xs))/2^Int.toNat q))) (val (ws (upI (val (ws (val (ws ((Fw.f x).a+(Fw.f x).e))*val (ws ((Fw.f y).a+(Fw.f y).e))))) (Int.toNat q)))))))))):=by kernel_rfl
theorem niMul_ok:SpecOk Tryz.prog 74 niMul :=
  specKW_ok (envOk tys3_ok sNi1_ok) mixed Tryz.func74 rfl (by decide) (by decide) fun (x:Fw) hx (y:Fw) hy (q:Int) _ hp=>⟨fun _=>none,0,by
    obtain ⟨xo,yo,q0,q1,he⟩:x.Ok∧y.Ok∧0≤q∧q≤16777216∧(mulF x.f y.f q).e≤1099511627776:=hp
    obtain ⟨x1,x2,x3,x4⟩:=xo.len hx
    obtain ⟨y1,y2,y3,y4⟩:=yo.len hy
    have m1:=Int.mul_nonneg x1 y1
    have m2:=Int.mul_nonneg x2 y2
    have p0:=two_pow_pos q.toNat
    have d1:=Int.ediv_nonneg m1 (show (0:Int)≤2^q.toNat by omega)
    have hlo:=mulF_lo (k:=q.toNat) x1 y1 (b:=x.f.e) (d:=y.f.e) xo.2.1 yo.2.1
    have hl1:=ws_len_mul x1 y1
    have hl2:=ws_len_mul x2 y2
    have hl3:(ws (x.f.a*y.f.a/2^q.toNat)).length≤(ws (x.f.a*y.f.a)).length:=ws_length_le (Int.lt_of_le_of_lt (Int.ediv_le_self _ m1) (lt_wpow_ws m1))
    have hu:upI ((x.f.a+x.f.e)*(y.f.a+y.f.e)) q.toNat≤(x.f.a+x.f.e)*(y.f.a+y.f.e)+1:=by
      have:=Int.ediv_le_self (2^q.toNat) m2
      unfold upI;split<;>omega
    have hl4:(ws (upI ((x.f.a+x.f.e)*(y.f.a+y.f.e)) q.toNat)).length≤(ws ((x.f.a+x.f.e)*(y.f.a+y.f.e))).length+1:=by
      refine ws_length_le ?_
      have a1:=lt_wpow_ws m2
      rw [wpow_succ]
      have:=wpow_pos (ws ((x.f.a+x.f.e)*(y.f.a+y.f.e))).length
      generalize wpow (ws ((x.f.a+x.f.e)*(y.f.a+y.f.e))).length=W at *
      omega
    have he':upI ((x.f.a+x.f.e)*(y.f.a+y.f.e)) q.toNat-x.f.a*y.f.a/2^q.toNat≤1099511627776:=he
    show execF _ _ _ _ _ (fun t=>t=fxT (mulF x.f y.f q)∨fgT t=fxT (mulF x.f y.f q))
    refine (niMul_vc x y q _).mpr ?_
    rw [←x.f_a,←y.f_a,val_ws x2,val_ws y2,val_ws m2,val_ws m1,val_ws d1,val_ws (n:=upI _ _) (by omega)]
    exact ⟨by omega,⟨by omega,by omega⟩,xo,yo,by omega,⟨by omega,by omega,by omega⟩,⟨hlo,he',rfl,by omega,by omega⟩,rfl,.inl rfl⟩⟩
def sNi2:List (FuncId×Spec):=[(32,fForm),(74,niMul)] ++ sNi1
theorem sNi2_ok:SpecsOk Tryz.prog sNi2:=⟨fForm_ok,niMul_ok,sNi1_ok⟩
def niIval:Spec:=specK [.fx,.i .i64] fun (x:Fw) (q:Int)=>(some (x.Ok∧0≤q∧q≤16777216),vT (ivF x.f q))
theorem niIval_vc(x:Fw)(q:Int)(Q:Tv→Prop):execF ⟨tys3,sNi2⟩ (fun _=>none) 0 Tryz.f76 [.agg (fwL false x),.one (.int .i64 q)] Q=(inR ((0:Int)-q)∧((-4611686018427387904:Int)≤0-q∧(0:Int)-q≤4611686018427387904)∧Fw.Ok x∧inR ((0:Int)-q)∧((-4611686018427387904:Int)≤0-q∧(0:Int)-q≤4611686018427387904)∧true=true∧Q (Tv.sv (Sv.agg (ivL true (Vx.mk (mkD false (val x.xs) ((0:Int)-q)) (mkD false (val (ws ((Fw.f x).a+(Fw.f x).e))) ((0:Int)-q))))))):=by kernel_rfl
theorem niIval_ok:SpecOk Tryz.prog 76 niIval :=
  specK_ok (envOk tys3_ok sNi2_ok) mixed Tryz.func76 rfl (by decide) (by decide) fun (x:Fw) hx (q:Int) _ hp=>⟨fun _=>none,0,by
    obtain ⟨xo,q0,q1⟩:x.Ok∧0≤q∧q≤16777216:=hp
    refine (niIval_vc x q _).mpr ?_
    rw [val_ws (xo.len hx).2.1,Int.zero_sub]
    exact ⟨⟨by omega,by omega⟩,⟨by omega,by omega⟩,xo,⟨by omega,by omega⟩,⟨by omega,by omega⟩,rfl,rfl⟩⟩
def fix11(v:Vx)(q:Int):Fx:=btwF (from9 v.lo q).a ((from9 v.hi q).a+(from9 v.hi q).e)
theorem elFix_vc(v:Vx)(q:Int)(Q:Tv→Prop):execF ⟨tys3,sNi2⟩ (fun _=>none) 0 Tryz.f71 [.agg (ivL false v),.one (.int .i64 q)] Q=((List.length v.lo.xs≤1073741824∧eB 68719476736 v.lo∧(0:Int)≤q∧q≤16777216)∧(List.length v.hi.xs≤1073741824∧eB 68719476736 v.hi∧(0:Int)≤q∧q≤16777216)∧Fw.Ok (fw (from9 v.hi q))∧(val (fw (from9 v.lo q)).xs≤val (ws ((Fw.f (fw (from9 v.hi q))).a+(Fw.f (fw (from9 v.hi q))).e))∧List.length (ws ((Fw.f (fw (from9 v.hi q))).a+(Fw.f (fw (from9 v.hi q))).e))≤17592186044414∧List.length (fw (from9 v.lo q)).xs≤17592186044414)∧true=true∧br (ltI 0 (↑(List.length (ws (val (ws ((Fw.f (fw (from9 v.hi q))).a+(Fw.f (fw (from9 v.hi q))).e))-val (fw (from9 v.lo q)).xs))):Int)) (((0:Int)≤0∧(0:Int)<(↑(List.length (ws (val (ws ((Fw.f (fw (from9 v.hi q))).a+(Fw.f (fw (from9 v.hi q))).e))-val (fw (from9 v.lo q)).xs))):Int))∧Q (Tv.sv (Sv.agg [At.words false (fw (from9 v.lo q)).xs,At.int .u64 (nth (ws (val (ws ((Fw.f (fw (from9 v.hi q))).a+(Fw.f (fw (from9 v.hi q))).e))-val (fw (from9 v.lo q)).xs)) 0)]))) (Q (Tv.sv (Sv.agg [At.words false (fw (from9 v.lo q)).xs,At.int .u64 0])))):=by kernel_rfl
theorem from9_ok{d:Dx}{q:Int}(hm:0≤d.m)(hs:d.Sm 1073741824)(q0:0≤q)(q1:q≤16777216):(from9 d q).Ok:=by
  obtain ⟨s1,s2,s3⟩:=hs
  unfold from9
  split
  · have p0:=two_pow_pos (d.e+q).toNat
    refine ⟨Int.mul_nonneg hm (by omega),?_,by show (0:Int)≤0;omega,by show (0:Int)≤_;omega⟩
    show blen (d.m*2^(d.e+q).toNat)≤_
    by_cases h:0<d.m
    · rw [blen_mul_pow h];omega
    · rw [show d.m=0 by omega,Int.zero_mul];decide
  · have p0:=two_pow_pos (-d.e-q).toNat
    refine ⟨Int.ediv_nonneg hm (by omega),?_,?_,?_⟩
    · have:=blen_mono (m:=d.m/2^(-d.e-q).toNat) (n:=d.m) (Int.ediv_le_self _ hm)
      show blen (d.m/2^(-d.e-q).toNat)≤_
      omega
    · show (0:Int)≤(if _ then 1 else 0);split<;>omega
    · show (if _ then (1:Int) else 0)≤_;split<;>omega
def elFix:Spec:=specK [.v,.i .i64] fun (v:Vx) (q:Int)=>(some (v.Sm 1073741824∧v.lo.xs.length≤1073741824∧v.hi.xs.length≤1073741824∧0≤q∧q≤16777216∧0≤(fix11 v q).e∧(fix11 v q).e≤1099511627776),fxT (fix11 v q))
theorem elFix_ok:SpecOk Tryz.prog 71 elFix :=
  specKW_ok (envOk tys3_ok sNi2_ok) mixed Tryz.func71 rfl (by decide) (by decide) fun (v:Vx) hv (q:Int) _ hp=>⟨fun _=>none,0,by
    obtain ⟨⟨s1,s2⟩,l1,l2,q0,q1,e0,e1⟩:v.Sm 1073741824∧v.lo.xs.length≤1073741824∧v.hi.xs.length≤1073741824∧0≤q∧q≤16777216∧0≤(fix11 v q).e∧(fix11 v q).e≤1099511627776:=hp
    have hv:=Vx.Wf.p hv
    have o1:=from9_ok hv.1 s1 q0 q1
    have o2:=from9_ok hv.2 s2 q0 q1
    have n1:=ws_blen (k:=1073741824) o1.1 (by have:=o1.2.1;omega)
    have e2:(fw (from9 v.hi q)).f=from9 v.hi q:=fw_f o2.1
    have a0:0≤(from9 v.hi q).a+(from9 v.hi q).e:=by have:=o2.1;have:=o2.2.2.1;omega
    have n2:=(o2.w).len (show WfW (ws (from9 v.hi q).a) from ⟨words_ws _,by have:=o2.w.1;show (ws (from9 v.hi q).a).length≤_;have:(ws (from9 v.hi q).a).length≤1073741824:=this;omega⟩)
    rw [e2] at n2
    have he0:0≤(from9 v.hi q).a+(from9 v.hi q).e-(from9 v.lo q).a:=e0
    have he1:(from9 v.hi q).a+(from9 v.hi q).e-(from9 v.lo q).a≤1099511627776:=e1
    show execF _ _ _ _ _ (fun t=>t=fxT (fix11 v q)∨fgT t=fxT (fix11 v q))
    refine (elFix_vc v q _).mpr ?_
    rw [e2,val_ws a0,show (fw (from9 v.lo q)).xs=ws (from9 v.lo q).a from rfl,val_ws o1.1,len_pos he0]
    refine ⟨⟨l1,s1.eB (by omega),q0,q1⟩,⟨l2,s2.eB (by omega),q0,q1⟩,o2.w,⟨by omega,by omega,by omega⟩,rfl,br_intro (fun h=>⟨⟨by omega,?_⟩,.inl ?_⟩) fun h=>.inl ?_⟩
    · have:=(len_pos he0).trans h;exact ltI_true.1 this
    · rw [nth_ws0 (by simp at h;omega) (by omega)];rfl
    · have h:(from9 v.hi q).a+(from9 v.hi q).e-(from9 v.lo q).a=0:=by simpa using h
      show _=Tv.sv (.agg [.words false (ws (from9 v.lo q).a),.int .u64 ((from9 v.hi q).a+(from9 v.hi q).e-(from9 v.lo q).a)])
      rw [h]⟩
theorem right_of{x:Vx}(h1:x.lo.fitsB=true)(h2:x.hi.fitsB=true)(h:x.lo.rv≤x.hi.rv):rightV x=true:=by
  rw [rightV,h1,h2,decide_eq_true (cmpD_le.2 h)];rfl
theorem spanS_rv(v:Vx)(d:Dx):(spanS v d).lo.rv≤v.lo.rv∧(spanS v d).lo.rv≤d.rv∧((spanS v d).lo=v.lo∨(spanS v d).lo=d)∧v.hi.rv≤(spanS v d).hi.rv∧d.rv≤(spanS v d).hi.rv∧((spanS v d).hi=v.hi∨(spanS v d).hi=d):=by
  unfold spanS
  have a:(if cmpD d v.lo<0 then d else v.lo).rv≤v.lo.rv∧(if cmpD d v.lo<0 then d else v.lo).rv≤d.rv∧((if cmpD d v.lo<0 then d else v.lo)=v.lo∨(if cmpD d v.lo<0 then d else v.lo)=d):=by
    by_cases h:cmpD d v.lo<0
    · rw [if_pos h];have:=cmpD_lt0.1 h;exact ⟨by grind,by grind,.inr rfl⟩
    · rw [if_neg h];have:¬ d.rv<v.lo.rv:=fun k=>h (cmpD_lt0.2 k);exact ⟨by grind,by grind,.inl rfl⟩
  have b:v.hi.rv≤(if 0<cmpD d v.hi then d else v.hi).rv∧d.rv≤(if 0<cmpD d v.hi then d else v.hi).rv∧((if 0<cmpD d v.hi then d else v.hi)=v.hi∨(if 0<cmpD d v.hi then d else v.hi)=d):=by
    by_cases h:0<cmpD d v.hi
    · rw [if_pos h];have:=cmpD_gt0.1 h;exact ⟨by grind,by grind,.inr rfl⟩
    · rw [if_neg h];have:¬ v.hi.rv<d.rv:=fun k=>h (cmpD_gt0.2 k);exact ⟨by grind,by grind,.inl rfl⟩
  exact ⟨a.1,a.2.1,a.2.2,b.1,b.2.1,b.2.2⟩
theorem span4_lo(a b c d:Dx):(spanL a [b,c,d]).lo.rv≤a.rv∧(spanL a [b,c,d]).lo.rv≤b.rv∧(spanL a [b,c,d]).lo.rv≤c.rv∧(spanL a [b,c,d]).lo.rv≤d.rv ∧
    ((spanL a [b,c,d]).lo=a∨(spanL a [b,c,d]).lo=b∨(spanL a [b,c,d]).lo=c∨(spanL a [b,c,d]).lo=d):=by
  have h1:=spanS_rv ⟨a,a⟩ b
  have h2:=spanS_rv (spanS ⟨a,a⟩ b) c
  have h3:=spanS_rv (spanS (spanS ⟨a,a⟩ b) c) d
  rw [show spanL a [b,c,d]=spanS (spanS (spanS ⟨a,a⟩ b) c) d from rfl]
  have a1:=h1.1;have a2:=h1.2.1;have a3:=h2.1;have a4:=h2.2.1;have a5:=h3.1;have a6:=h3.2.1
  simp only at a1
  refine ⟨by grind,by grind,by grind,a6,?_⟩
  rcases h3.2.2.1 with k | k<;>rw [k]
  · rcases h2.2.2.1 with k | k<;>rw [k]
    · rcases h1.2.2.1 with k | k<;>rw [k]
      · exact .inl rfl
      · exact .inr (.inl rfl)
    · exact .inr (.inr (.inl rfl))
  · exact .inr (.inr (.inr rfl))
theorem span4_hi(a b c d:Dx):a.rv≤(spanL a [b,c,d]).hi.rv∧b.rv≤(spanL a [b,c,d]).hi.rv∧c.rv≤(spanL a [b,c,d]).hi.rv∧d.rv≤(spanL a [b,c,d]).hi.rv ∧
    ((spanL a [b,c,d]).hi=a∨(spanL a [b,c,d]).hi=b∨(spanL a [b,c,d]).hi=c∨(spanL a [b,c,d]).hi=d):=by
  have h1:=spanS_rv ⟨a,a⟩ b
  have h2:=spanS_rv (spanS ⟨a,a⟩ b) c
  have h3:=spanS_rv (spanS (spanS ⟨a,a⟩ b) c) d
  rw [show spanL a [b,c,d]=spanS (spanS (spanS ⟨a,a⟩ b) c) d from rfl]
  have a1:=h1.2.2.2.1;have a2:=h1.2.2.2.2.1;have a3:=h2.2.2.2.1;have a4:=h2.2.2.2.2.1;have a5:=h3.2.2.2.1;have a6:=h3.2.2.2.2.1
  simp only at a1
  refine ⟨by grind,by grind,by grind,a6,?_⟩
  rcases h3.2.2.2.2.2 with k | k<;>rw [k]
  · rcases h2.2.2.2.2.2 with k | k<;>rw [k]
    · rcases h1.2.2.2.2.2 with k | k<;>rw [k]
      · exact .inl rfl
      · exact .inr (.inl rfl)
    · exact .inr (.inr (.inl rfl))
  · exact .inr (.inr (.inr rfl))
theorem trim_best{w:Vx}{p:Int}(hw:w.P)(hp:1≤p):Dn p w.lo.rv (trimV w p).lo.rv∧Up p w.hi.rv (trimV w p).hi.rv:=⟨(cutD_best hw.1 hp).1,(cutD_best hw.2 hp).2⟩
theorem prod_lo{v u:Vx}(hv:v.P)(hu:u.P):(∀ x0 y0,(x0=v.lo.rv∨x0=v.hi.rv)→(y0=u.lo.rv∨y0=u.hi.rv)→(prodV v u).lo.rv≤x0*y0∧x0*y0≤(prodV v u).hi.rv):=by
  obtain ⟨a1,a2,a3,a4,_⟩:=span4_lo (timesD v.lo u.lo) (timesD v.lo u.hi) (timesD v.hi u.lo) (timesD v.hi u.hi)
  obtain ⟨b1,b2,b3,b4,_⟩:=span4_hi (timesD v.lo u.lo) (timesD v.lo u.hi) (timesD v.hi u.lo) (timesD v.hi u.hi)
  rw [rv_times hv.1 hu.1] at a1 b1
  rw [rv_times hv.1 hu.2] at a2 b2
  rw [rv_times hv.2 hu.1] at a3 b3
  rw [rv_times hv.2 hu.2] at a4 b4
  intro x0 y0 hx hy
  rcases hx with rfl | rfl<;>rcases hy with rfl | rfl
  · exact ⟨a1,b1⟩
  · exact ⟨a2,b2⟩
  · exact ⟨a3,b3⟩
  · exact ⟨a4,b4⟩
theorem prod_at{v u:Vx}(hv:v.P)(hu:u.P):(∃ x0 y0,(x0=v.lo.rv∨x0=v.hi.rv)∧(y0=u.lo.rv∨y0=u.hi.rv)∧(prodV v u).lo.rv=x0*y0)∧(∃ x0 y0,(x0=v.lo.rv∨x0=v.hi.rv)∧(y0=u.lo.rv∨y0=u.hi.rv)∧(prodV v u).hi.rv=x0*y0):=by
  obtain ⟨_,_,_,_,a⟩:=span4_lo (timesD v.lo u.lo) (timesD v.lo u.hi) (timesD v.hi u.lo) (timesD v.hi u.hi)
  obtain ⟨_,_,_,_,b⟩:=span4_hi (timesD v.lo u.lo) (timesD v.lo u.hi) (timesD v.hi u.lo) (timesD v.hi u.hi)
  constructor
  · show ∃ x0 y0,_∧_∧(spanL (timesD v.lo u.lo) [timesD v.lo u.hi,timesD v.hi u.lo,timesD v.hi u.hi]).lo.rv=_
    rcases a with a | a | a | a<;>rw [a]
    · exact ⟨_,_,.inl rfl,.inl rfl,rv_times hv.1 hu.1⟩
    · exact ⟨_,_,.inl rfl,.inr rfl,rv_times hv.1 hu.2⟩
    · exact ⟨_,_,.inr rfl,.inl rfl,rv_times hv.2 hu.1⟩
    · exact ⟨_,_,.inr rfl,.inr rfl,rv_times hv.2 hu.2⟩
  · show ∃ x0 y0,_∧_∧(spanL (timesD v.lo u.lo) [timesD v.lo u.hi,timesD v.hi u.lo,timesD v.hi u.hi]).hi.rv=_
    rcases b with b | b | b | b<;>rw [b]
    · exact ⟨_,_,.inl rfl,.inl rfl,rv_times hv.1 hu.1⟩
    · exact ⟨_,_,.inl rfl,.inr rfl,rv_times hv.1 hu.2⟩
    · exact ⟨_,_,.inr rfl,.inl rfl,rv_times hv.2 hu.1⟩
    · exact ⟨_,_,.inr rfl,.inr rfl,rv_times hv.2 hu.2⟩
theorem times_best{v u:Vx}{p:Int}(hp:1≤p)(hv:v.P)(hu:u.P):Dn p (prodV v u).lo.rv (timesV v u p).lo.rv∧Up p (prodV v u).hi.rv (timesV v u p).hi.rv:=by
  have _:=hv
  have _:=hu
  exact trim_best (prodV_p v u) hp
theorem rv_ne{d:Dx}(h:d.rv≠0):d.m≠0:=fun e=>h (rv_zero e)
theorem trimV_p(v:Vx)(p:Int):(trimV v p).P:=⟨cutD_p,cutD_p⟩
end Go.Proofs.YtbmolijeikedcaaGreatDoor
