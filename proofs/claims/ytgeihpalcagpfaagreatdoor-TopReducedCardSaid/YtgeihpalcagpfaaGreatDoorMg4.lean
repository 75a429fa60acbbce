/-
Package reduce.
Package reduce: Turns, Scale, Split.
Package ulpref09: pi; ulpref14: pi.
Package ulpref14.
When right angles are told apart: plain.
The reckoning again, so that the kernel can do it: the same functions by recursion on a number of rounds.
Package ulplaw14.
Package ulplaw13: the words.
Answers of sines and cosines against the document's. Plain.
Package ulplaw13: the answers that the document gives; SincoreEncloses.
Sine and cosine: the circle, the mirror, bounds. Plain.
Package ulplaw14: ReduceOdd.
Package ulplaw14: ReduceBack, ReduceNear.
Package ulplaw14: ReduceNear.
Package ulplaw14: ReduceAngles.
ulpref04.Copy, by hand: a copy of a number's words.
Package ulplaw14: ReduceQuarter.
Package ulplaw14: ReduceQuarter's word.
Package ulplaw13: circle, mirror, bounds: the laws' words.
The sine rises, the cosine falls with the amount: partial sum by partial sum. Plain.
Sines and cosines of all numbers of an interval: near the document's, and right. Plain.
Package ulplaw13: near; SincoreBoth.
Sines and cosines over a narrow interval: how narrow. Plain.
Sines and cosines of all numbers of a narrow interval: narrow. Plain.
Sines and cosines of all numbers of an interval, enclosed; the turned pair; what is asked of an answer. Plain.
Of half a turned pair: what becomes of it, cut to the bits that are asked; quotients. Plain.
Quotients of narrow intervals; how great the sines of what is not too near 0 are. Plain.
The angle of so many half turns. Plain.
Sine and cosine of so many half turns, turned: they meet the document's. Plain.
Tangents: what the program's quotient is, and that it meets the document's. Plain.
The document's sine and cosine of half turns keep off 0; quotients of 0. Plain.
What TrigpiBoth asks. Plain.
What TrigpiEncloses asks, behind the reading of a binary64 number. Plain.
What is left of a binary64 number behind half turns has room, and is not too near 0. Plain.
The turned pair: on the circle, mirrored, half a turn on. Plain.
What the program and the document leave of one number behind right angles: as many, and a shared rational. Plain.
Sine and cosine of what is left behind right angles. Plain.
Circle, mirror, half a turn: what ulplaw18 asks without the document. Plain.
The tangent on the other side of 0. Plain.
What is left behind right angles of a number that is not 0: it is not 0, and how great it is. Plain.
How sine, cosine and inverse tangent change from number to number; the tangent of the inverse tangent. Plain.
Sequences of angles: sums of them, the sine and the cosine of a quarter and of half of pi. Plain.
Sequences of angles that lie in an interval in the end: what holds of all numbers of the interval holds of them; the pair of half turns. Plain.
Sine and cosine of a sum of so many half turns, turned. Plain.
Binary64 numbers, taken apart: dyad.From, ulpref04.From, bits.Neg.
What the program leaves behind right angles encloses a sequence of angles; its pair of a binary64; what TrigEncloses asks. Plain.
Package trigpi: the turned pairs.
Package trigpi: of, Both, Enclose.
Package ulpref18.
Package ulplaw18: the answers that the document gives; TrigpiEncloses, TrigpiBoth.
Package trig.
The program's and the document's pair of a binary64; what TrigEncloses asks. Plain.
Packages trig, ulpref17: Both, Enclose; ulplaw17: free, like, sound.
Package ulpref17; ulplaw17: free, like; TrigEncloses behind lives.
Package ulplaw17: free, like, lives; TrigEncloses.
ulplaw17: sound; Touch and Lies of ulpref06; TrigCircle, TrigMirror.
ulplaw17: TrigCircle.
Package ulplaw18: statements without the document: their helpers and runs.
ulplaw17: TrigMirror.
ulplaw17: TrigBounds, TrigBoth: their runs.
ulplaw17: TrigBoth.
ulplaw17: TrigBounds; ulpref01.Less.
ulplaw17: TrigBounds.
ulplaw17: TrigBounds: the statement.
ulplaw17: TrigTwice: its run.
ulplaw17: sines and cosines of sums of sequences of angles, turned. Plain.
Package ulptop: what it begins with, sound, sounds; TopReduced: runs.
TopReduced: an angle from -1 to 1 has the sine and the cosine of what is left of it, turned. Plain.
TopReduced: its word.
From the arguments of a row to numbers and intervals; what a law's call leaves.
-/
import Derived.Test.YtgeihpalcagpfaaGreatDoorMg3
import Derived.Test.YtgeihpalcagpfaaGreatDoorMg2
import Derived.Test.YtgeihpalcagpfaaGreatDoorMg0
import Derived.ProofKit
import Derived.LaidMore
import Derived.OpenShut
import Derived.LaidLaws
import Derived.Carry
import Derived.OpenVars
import Derived.Deep.Strs
import Derived.ChangeCalls
import Derived.Stop.Joined
namespace Go.Proofs.YtgeihpalcagpfaaGreatDoor
open Go.RowKit
def tyFI:TyRow:=⟨56,1,false,[.lit .nilFunc],.func⟩
def tys6:List TyRow:=tyFI :: tys5
theorem tys6_ok:RowsOk Tryz.prog tys6:=⟨by kernel_rfl,tys5_ok⟩
def qPiW(co:Int→Vx×Int):Spec:=specK [.i .i64] fun (w:Int)=>(none,reT (co w))
def sQp(co:Int→Vx×Int):List (FuncId×Spec):=[(25,specK [.i .u8,.i .i64] fun (k:Int) (p:Int)=>(some (k=1),reT (co p)))]
theorem sQp_ok:SpecsOk Tryz.prog (sQp constR):=⟨cConst_ok,trivial⟩
theorem qPi_vc(w:Int)(co:Int→Vx×Int)(Q:Tv→Prop):execF ⟨tys6,sQp co⟩ (fun _=>none) 0 Tryz.f24 [.one (.int .i64 w)] Q=((1:Int)=(1:Int)∧Q (Tv.tup [Sv.agg (ivL false (co w).fst),Sv.one (At.int .i64 (co w).snd)])):=by kernel_rfl
theorem qPi_ok:SpecOk Tryz.prog 24 (qPiW constR) :=
  specK_ok (envOk tys6_ok sQp_ok) mixed Tryz.func24 rfl (by decide) (by decide) fun (w:Int) _ _=>⟨fun _=>none,0,(qPi_vc w constR _).mpr ⟨rfl,rfl⟩⟩
def sRed:List (FuncId×Spec):=[(58,rNear),(62,rBy4),(77,rInt)] ++ sRaw8
theorem sRed_ok:SpecsOk Tryz.prog sRed:=⟨rNear_ok,rBy4_ok,rInt_ok,sRaw8_ok⟩
def halfP(w:Int):Vx:=scaleV (constPi w) (-1)
theorem halfP_hf{w:Int}(w0:8≤w)(w1:w≤65000):HfIv (p2 (-3-w)/2) (halfP w):=(constPi_iv w0 w1).half
theorem blen32{a w:Int}(w0:0≤w)(h:a<64*2^w.toNat):(blen a:Int)≤w+6:=by
  have:blen a≤w.toNat+6:=blen_le (by rw [Int.pow_add];have:(2:Int)^6=64:=by decide
                                     rw [this];omega)
  omega
theorem pow_ge{w:Int}(w0:64≤w)(w1:w≤65536):80*w+320≤2^w.toNat:=by
  obtain ⟨k,hk⟩:∃ k:Nat,w=k+32:=⟨(w-32).toNat,by omega⟩
  have pb:=pow_big k
  rw [show w.toNat=k+32 by omega];omega
theorem ivF_bd{z:Fx}{w:Int}(w0:64≤w)(w1:w≤65536)(a0:0≤z.a)(e0:0≤z.e)(e1:z.e≤80*w+320)(a1:z.a≤32*2^w.toNat):(ivF z w).Bd w 7:=by
  have g:=pow_ge w0 w1
  have b1:=blen32 (a:=z.a) (w:=w) (by omega) (by omega)
  have b2:=blen32 (a:=z.a+z.e) (w:=w) (by omega) (by omega)
  exact ⟨mkD_bd a0 (by omega) (by omega) (by omega) (by omega),mkD_bd (by omega) (by omega) (by omega) (by omega) (by omega)⟩
theorem Vx.Bd.scale1{L T:Int}{v:Vx}(hv:v.P)(h:v.Bd L T):(scaleV v (-1)).Bd (L+1) T:=⟨h.1.shift hv.1 (by have:=h.1.l0;omega) h.1.t0 (by omega) (by omega),h.2.shift hv.2 (by have:=h.1.l0;omega) h.1.t0 (by omega) (by omega)⟩
theorem constPi_bd{w:Int}(w0:8≤w)(w1:w≤16384):(constPi w).Bd (w+64) 8:=by
  obtain ⟨a0,e0,e1,a1⟩:=piF_e (w:=w+64) (by omega) (by omega)
  exact Vx.Bd.trim (encPi_iv w0 (by omega)).p (by omega) (ivF_bd (by omega) (by omega) a0 e0 e1 a1)
theorem halfP_bd{w:Int}(w0:8≤w)(w1:w≤16384):(halfP w).Bd (w+65) 8:=Vx.Bd.mono ((constPi_bd w0 w1).scale1 (constPi_iv w0 (show w≤65000 by omega)).p) (by omega) (by omega)
def tryT(r:Int×Vx×Bool):Tv:=.tup [.one (.int .i64 r.1),.agg (ivL true r.2.1),.one (.bool r.2.2)]
def inX(x:Dx):Prop:=x.Bd 32768 98304∧x.rv<p2 (1024:Nat)∧-(p2 (1024:Nat))<x.rv
def wTry(pr:Dx→Int→Int→Prop)(g:Dx→Int→Int→Int×Vx×Bool):Spec:=fun l=>match l with
  | [.agg [.bool ng,.words false xs,.int .i64 e],.one (.int .i64 p),.one (.int .i64 w),.one (.fn n [])]=>(match Nat.beq n 24 with
    | true=>(some (pr ⟨ng,xs,e⟩ p w),tryT (g ⟨ng,xs,e⟩ p w))
    | false=>noSpec)
  | _=>noSpec
theorem qTry_vc(x:Dx)(p w:Int)(co:Int→Vx×Int)(Q:Tv→Prop):execF ⟨tys6,(24,qPiW co) :: sRed⟩ (fun _=>none) 0 Tryz.f26 [.agg (dyL false x),.one (.int .i64 p),.one (.int .i64 w),.one (.fn 24 [])] Q=(br (neI (co w).snd 0) (Q (Tv.tup [Sv.one (At.int .i64 0),Sv.agg [At.bool false,At.words true [],At.int .i64 0,At.bool false,At.words true [],At.int .i64 0],Sv.one (At.bool false)])) ((eB 2305843009213693952 (co w).fst.lo∧eB 2305843009213693952 (co w).fst.hi∧(-2305843009213693952:Int)≤(-1)∧(-1:Int)≤2305843009213693952)∧eB 4611686018427387904 x∧(Vx.Sm 67108864 (pointV x)∧Vx.Sm 67108864 (scaleV (co w).fst (-1))∧Dx.m (scaleV (co w).fst (-1)).lo≠0∧Dx.m (scaleV (co w).fst (-1)).hi≠0∧(0:Int)≤w∧w≤67108864)∧true=true∧Dx.Sm 268435456 (divV (pointV x) (scaleV (co w).fst (-1)) w).lo∧Dx.Sm 268435456 (divV (pointV x) (scaleV (co w).fst (-1)) w).hi∧(Dx.Sm 68719476736 (nearD (divV (pointV x) (scaleV (co w).fst (-1)) w).lo)∧Dx.Sm 68719476736 (nearD (divV (pointV x) (scaleV (co w).fst (-1)) w).hi))∧true=true∧br (neI (cmpD (nearD (divV (pointV x) (scaleV (co w).fst (-1)) w).lo) (nearD (divV (pointV x) (scaleV (co w).fst (-1)) w).hi)) 0) (Q (Tv.tup [Sv.one (At.int .i64 0),Sv.agg [At.bool false,At.words true [],At.int .i64 0,At.bool false,At.words true [],At.int .i64 0],Sv.one (At.bool false)])) (eB 4611686018427387904 x∧eB 4611686018427387904 (nearD (divV (pointV x) (scaleV (co w).fst (-1)) w).lo)∧inR (w+64)∧(Vx.Sm 268435456 (pointV (nearD (divV (pointV x) (scaleV (co w).fst (-1)) w).lo))∧Vx.Sm 268435456 (scaleV (co w).fst (-1))∧(0:Int)≤w+64∧w+64≤1099511627776)∧(Vx.Sm 134217728 (pointV x)∧Vx.Sm 134217728 (timesV (pointV (nearD (divV (pointV x) (scaleV (co w).fst (-1)) w).lo)) (scaleV (co w).fst (-1)) (w+64))∧(0:Int)≤w∧w≤1099511627776)∧true=true∧(OneF (nearD (divV (pointV x) (scaleV (co w).fst (-1)) w).lo)∧(0:Int)≤(nearD (divV (pointV x) (scaleV (co w).fst (-1)) w).lo).e∧(nearD (divV (pointV x) (scaleV (co w).fst (-1)) w).lo).e≤4611686018427387904)∧(Vx.Sm 67108864 (lessV (pointV x) (timesV (pointV (nearD (divV (pointV x) (scaleV (co w).fst (-1)) w).lo)) (scaleV (co w).fst (-1)) (w+64)) w)∧(0:Int)≤p)∧true=true∧Q (Tv.tup [Sv.one (At.int .i64 (by4I (nearD (divV (pointV x) (scaleV (co w).fst (-1)) w).lo))),Sv.agg (ivL true (lessV (pointV x) (timesV (pointV (nearD (divV (pointV x) (scaleV (co w).fst (-1)) w).lo)) (scaleV (co w).fst (-1)) (w+64)) w)),Sv.one (At.bool (narrowV (lessV (pointV x) (timesV (pointV (nearD (divV (pointV x) (scaleV (co w).fst (-1)) w).lo)) (scaleV (co w).fst (-1)) (w+64)) w) p))])))):=by kernel_rfl
def preTry(x:Dx)(p w:Int):Prop:=inX x∧8≤w∧w≤8192∧0≤p
theorem sTry_ok:SpecsOk Tryz.prog ((24,qPiW constR) :: sRed):=⟨qPi_ok,sRed_ok⟩
theorem qTry_ok:SpecOk Tryz.prog 26 (wTry preTry (fun x p w=>tryW (halfP w) x p w)) :=
  specOk_pat (envOk tys6_ok sTry_ok) mixed Tryz.func26 rfl (by decide) 4 (by decide) fun l p t hwf e hp=>by
    unfold wTry at e
    split at e
    · rename_i ng xs ee p w n
      split at e
      rotate_left
      · cases e;exact hp.elim
      rename_i hb
      obtain rfl:=Nat.eq_of_beq_eq_true hb
      cases e
      obtain ⟨⟨bx,x1,x2⟩,w0,w1,p0⟩:preTry ⟨ng,xs,ee⟩ p w:=hp
      have hx:0≤Dx.m ⟨ng,xs,ee⟩:=val_nonneg hwf.1.2.1.1
      refine ⟨Nat.le_refl 4,fun _=>none,0,(qTry_vc ⟨ng,xs,ee⟩ p w constR _).mpr ?_⟩
      have ec:constR w=(constPi w,0):=by unfold constR;rw [if_pos ⟨w0,w1⟩]
      rw [ec]
      generalize (⟨ng,xs,ee⟩:Dx)=x at *
      have hf:=halfP_hf w0 (show w≤65000 by omega)
      have hb:=halfP_bd w0 (show w≤16384 by omega)
      have cs:=right_sm (constPi_right w0 (show w≤16384 by omega))
      refine br_intro (fun h=>by cases h) fun _=>?_
      show (eB _ (constPi w).lo∧eB _ (constPi w).hi∧_∧_)∧_∧(_∧Vx.Sm _ (halfP w)∧Dx.m (halfP w).lo≠0∧Dx.m (halfP w).hi≠0∧_∧_)∧_∧Dx.Sm _ (quoW (halfP w) x w).lo∧Dx.Sm _ (quoW (halfP w) x w).hi∧(Dx.Sm _ (nW (halfP w) x w)∧Dx.Sm _ (nearD (quoW (halfP w) x w).hi))∧_ ∧
        br (!sureW (halfP w) x w) (tryT (0,zeroIv,false)=tryT (tryW (halfP w) x p w)∨fgT (tryT (0,zeroIv,false))=tryT (tryW (halfP w) x p w)) (_∧eB _ (nW (halfP w) x w)∧_∧(Vx.Sm _ (pointV (nW (halfP w) x w))∧Vx.Sm _ (halfP w)∧_∧_)∧(_∧Vx.Sm _ (timesV (pointV (nW (halfP w) x w)) (halfP w) (w+64))∧_∧_)∧_∧(OneF (nW (halfP w) x w)∧0≤(nW (halfP w) x w).e∧(nW (halfP w) x w).e≤4611686018427387904)∧(Vx.Sm _ (restW (halfP w) x w)∧_)∧_ ∧
          (tryT (by4I (nW (halfP w) x w),restW (halfP w) x w,narrowV (restW (halfP w) x w) p)=tryT (tryW (halfP w) x p w)∨fgT (tryT (by4I (nW (halfP w) x w),restW (halfP w) x w,narrowV (restW (halfP w) x w) p))=tryT (tryW (halfP w) x p w)))
      generalize halfP w=h at *
      have sx:=bx.sm (N:=131072) (by omega)
      have hs:=hb.sm (N:=16384) (by omega)
      have q:=quoW_sm (w:=w) hx hf.p sx (hs.mono (by omega)) (by omega) (by omega)
      have sn:=nW_sm hf hx (w:=w) (by omega) x1 x2
      have np:0≤(nW h x w).m:=nearD_p
      have bn:(nW h x w).Bd 0 2051:=⟨by omega,by omega,nearD_e,by have:=sn.1;have:=sn.2.2;omega⟩
      have z1:=bx.point hx
      have zn:=bn.point np
      have zt:(timesV (pointV (nW h x w)) h (w+64)).Bd (0+(w+65)) (2051+8+1):=zn.times (pointV_p _) hf.p (by omega) hb
      have zr:(restW h x w).Bd 32768 98306:=z1.less (pointV_p x) (trimV_p _ _) (by omega) (zt.mono (by omega) (by omega))
      have r1:Dx.rv h.lo≠0:=by have:=hf.lo;grind
      have r2:Dx.rv h.hi≠0:=by have:=hf.lo;have:=hf.le;grind
      refine ⟨⟨cs.1.eB (by omega),cs.2.eB (by omega),by omega,by omega⟩,sx.eB (by omega),⟨z1.sm (by omega),hs.mono (by omega),rv_ne r1,rv_ne r2,by omega,by omega⟩,rfl,q.1.mono (by omega),q.2.mono (by omega),⟨sn.mono (by omega),(nearD_sm (divV_p _ _ _).2 q.2 (by omega)).mono (by omega)⟩,rfl,br_intro (fun hb=>.inl ?_) fun hb=>⟨sx.eB (by omega),sn.eB (by omega),⟨by omega,by omega⟩,⟨zn.sm (by omega),hs.mono (by omega),by omega,by omega⟩,⟨z1.sm (by omega),zt.sm (by omega),by omega,by omega⟩,rfl,⟨nearD_f,nearD_e,by have:=sn.2.2;omega⟩,⟨zr.sm (by omega),p0⟩,rfl,.inl ?_⟩⟩
      · rw [tryW,if_neg (by rw [not_true hb];simp)]
      · rw [tryW,if_pos (not_false' hb)]
    · cases e;exact hp.elim
def dyX(b:Nat)(nw:Bool)(x:Dx):List (Nat×Nat×At):=[(b,0,.bool x.neg),(b,1,.words nw x.xs),(b,2,.int .i64 x.e)]
def zvX(b:Nat):List (Nat×Nat×At):=[(b,0,.bool false),(b,1,.words true []),(b,2,.int .i64 0),(b,3,.bool false),(b,4,.words true []),(b,5,.int .i64 0)]
def quK:LKeep:=⟨[1,2,5,7,8],[(0,3),(2,6)],3⟩
def quSt(x:Dx)(p:Int)(a:Nat×Int):List (Nat×Tv)×List (Nat×Nat×At) :=
  ([(1,iT p),(2,.sv (.one (.ptr 0 0))),(5,.sv (.one (.ptr 2 0))),(7,.sv (.one (.fn 24 []))),(8,iT a.2)],dyX 0 true x ++ zvX 2)
def quInv(x:Dx)(p:Int)(P:Nat×Int→Prop):Nat→Option LInv:=invAt 11 (.rel quK (Nat×Int) (quSt x p) P (fun a=>a.1))
theorem qQu_vc(x:Dx)(p:Int)(P:Nat×Int→Prop)(pr:Dx→Int→Int→Prop)(g:Dx→Int→Int→Int×Vx×Bool)(Q:Tv→Prop):execF ⟨tys6,(26,wTry pr g) :: sRed⟩ (quInv (oneD x) p P) 0 Tryz.f5 [.agg (dyL false x),.one (.int .i64 p)] Q=(br (!Dx.fitsB x) (Q (Tv.tup [Sv.one (At.int .i64 0),Sv.agg [At.bool false,At.words true [],At.int .i64 0,At.bool false,At.words true [],At.int .i64 0],Sv.one (At.int .i64 2)])) (br (ltI p 8) (Q (Tv.tup [Sv.one (At.int .i64 0),Sv.agg [At.bool false,At.words true [],At.int .i64 0,At.bool false,At.words true [],At.int .i64 0],Sv.one (At.int .i64 2)])) (br (ltI 3968 p) (Q (Tv.tup [Sv.one (At.int .i64 0),Sv.agg [At.bool false,At.words true [],At.int .i64 0,At.bool false,At.words true [],At.int .i64 0],Sv.one (At.int .i64 2)])) (((-4611686018427387904:Int)≤x.e∧x.e≤4611686018427387904)∧br (Dx.zeroB (oneD x)) (Q (Tv.tup [Sv.one (At.int .i64 0),Sv.agg [At.bool false,At.words true [],At.int .i64 0,At.bool false,At.words true [],At.int .i64 0],Sv.one (At.int .i64 0)])) (((-2305843009213693952:Int)≤(oneD x).e∧(oneD x).e≤2305843009213693952)∧br (leI 1024 ((oneD x).e+(↑(blen (Dx.m (oneD x))):Int)-1)) (Q (Tv.tup [Sv.one (At.int .i64 0),Sv.agg [At.bool false,At.words true [],At.int .i64 0,At.bool false,At.words true [],At.int .i64 0],Sv.one (At.int .i64 3)])) (((-2305843009213693952:Int)≤(oneD x).e∧(oneD x).e≤2305843009213693952)∧inR (maxI ((oneD x).e+(↑(blen (Dx.m (oneD x))):Int)-1) 0+p)∧inR (maxI ((oneD x).e+(↑(blen (Dx.m (oneD x))):Int)-1) 0+p+64)∧true=true∧(∃ (a:Nat×Int),P a∧Sg.mk [(1,iT p),(2,Tv.sv (Sv.one (At.ptr 0 0))),(5,Tv.sv (Sv.one (At.ptr ((0:Nat)+2) 0))),(7,Tv.sv (Sv.one (At.fn 24 []))),(8,iT (maxI ((oneD x).e+(↑(blen (Dx.m (oneD x))):Int)-1) 0+p+64))] [(0,0,At.bool (oneD x).neg),(0,1,At.words true (oneD x).xs),(0,2,At.int .i64 (oneD x).e),(2,0,At.bool false),(2,1,At.words true []),(2,2,At.int .i64 0),(2,3,At.bool false),(2,4,At.words true []),(2,5,At.int .i64 0)] 3=LKeep.at quK (quSt (oneD x) p a))∧∀ (a:Nat×Int),P a→pr (oneD x) p (minI a.snd 8192)∧br (g (oneD x) p (minI a.snd 8192)).snd.snd (br (rightV (g (oneD x) p (minI a.snd 8192)).snd.fst) (true=true∧Q (Tv.tup [Sv.one (At.int .i64 (g (oneD x) p (minI a.snd 8192)).fst),Sv.agg (ivL true (g (oneD x) p (minI a.snd 8192)).snd.fst),Sv.one (At.int .i64 0)])) (br (eqI (minI a.snd 8192) 8192) (Q (Tv.tup [Sv.one (At.int .i64 0),Sv.agg [At.bool false,At.words true [],At.int .i64 0,At.bool false,At.words true [],At.int .i64 0],Sv.one (At.int .i64 6)])) (inR ((2:Int)*minI a.snd 8192)∧true=true∧∃ (a':Nat×Int),P a'∧Sg.mk [(1,iT p),(2,Tv.sv (Sv.one (At.ptr 0 0))),(5,Tv.sv (Sv.one (At.ptr 2 0))),(7,Tv.sv (Sv.one (At.fn 24 []))),(8,iT ((2:Int)*minI a.snd 8192))] [(0,0,At.bool (oneD x).neg),(0,1,At.words true (oneD x).xs),(0,2,At.int .i64 (oneD x).e),(2,0,At.bool false),(2,1,At.words true []),(2,2,At.int .i64 0),(2,3,At.bool false),(2,4,At.words true []),(2,5,At.int .i64 0)] 3=LKeep.at quK (quSt (oneD x) p a')∧a'.fst<a.fst))) (br (eqI (minI a.snd 8192) 8192) (Q (Tv.tup [Sv.one (At.int .i64 0),Sv.agg [At.bool false,At.words true [],At.int .i64 0,At.bool false,At.words true [],At.int .i64 0],Sv.one (At.int .i64 6)])) (inR ((2:Int)*minI a.snd 8192)∧true=true∧∃ (a':Nat×Int),P a'∧Sg.mk [(1,iT p),(2,Tv.sv (Sv.one (At.ptr 0 0))),(5,Tv.sv (Sv.one (At.ptr 2 0))),(7,Tv.sv (Sv.one (At.fn 24 []))),(8,iT ((2:Int)*minI a.snd 8192))] [(0,0,At.bool (oneD x).neg),(0,1,At.words true (oneD x).xs),(0,2,At.int .i64 (oneD x).e),(2,0,At.bool false),(2,1,At.words true []),(2,2,At.int .i64 0),(2,3,At.bool false),(2,4,At.words true []),(2,5,At.int .i64 0)] 3=LKeep.at quK (quSt (oneD x) p a')∧a'.fst<a.fst)))))))):=by kernel_rfl
def topD(x:Dx):Int:=x.e+blen x.m-1
def tryP(x:Dx)(p w:Int):Int×Vx×Bool:=tryW (halfP w) x p w
def okW(x:Dx)(p w:Int):Bool:=(tryP x p w).2.2 && rightV (tryP x p w).2.1
def quarL(x:Dx)(p:Int):Nat→Int→Int×Vx×Int
  | 0,_=>(0,zeroIv,6)
  | n+1,w=>if okW x p (min w 8192)=true then ((tryP x p (min w 8192)).1,(tryP x p (min w 8192)).2.1,0) else if min w 8192=8192 then (0,zeroIv,6) else quarL x p n (2*min w 8192)
def quarR(x:Dx)(p:Int):Int×Vx×Int :=
  if x.fitsB=true∧8≤p∧p≤3968 then (if (oneD x).m=0 then (0,zeroIv,0) else if 1024≤topD (oneD x) then (0,zeroIv,3) else quarL (oneD x) p 9 (max (topD (oneD x)) 0+p+64)) else (0,zeroIv,2)
def quT(r:Int×Vx×Int):Tv:=.tup [.one (.int .i64 r.1),.agg (ivL false r.2.1),.one (.int .i64 r.2.2)]
def qQu:Spec:=specK [.d,.i .i64] fun (x:Dx) (p:Int)=>(none,quT (quarR x p))
theorem top_lt{x:Dx}(hx:0≤x.m)(h:topD x<1024):x.rv<p2 (1024:Nat)∧-(p2 (1024:Nat))<x.rv:=by
  have q:=p2_pos ((1024:Nat):Int)
  have a:=amt_lt (m:=x.m) (e:=x.e)
  have l:=p2_le (show x.e+(blen x.m:Int)≤((1024:Nat):Int) by unfold topD at h;omega)
  obtain ⟨r1,r2⟩:=rv_amt hx
  rcases (show 0≤x.rv∨x.rv≤0 by grind) with s | s
  · have:=r1 s
    generalize p2 ((1024:Nat):Int)=Q at *
    constructor<;>grind
  · have:=r2 s
    generalize p2 ((1024:Nat):Int)=Q at *
    constructor<;>grind
theorem sQu_ok:SpecsOk Tryz.prog ((26,wTry preTry (fun x p w=>tryW (halfP w) x p w)) :: sRed):=⟨qTry_ok,sRed_ok⟩
theorem qQu_ok:SpecOk Tryz.prog 5 qQu :=
  specKW_ok (envOk tys6_ok sQu_ok) mixed Tryz.func5 rfl (by decide) (by decide) fun (x:Dx) hxw (p:Int) _ _=>by
    have hx:=Dx.Wf.m0 hxw
    obtain ⟨R,hR⟩:∃ R,R=quarL (oneD x) p 9 (max (topD (oneD x)) 0+p+64):=⟨_,rfl⟩
    refine ⟨quInv (oneD x) p (fun a=>quarL (oneD x) p a.1 a.2=R∧1≤a.1∧8≤a.2∧a.2≤16384∧16384≤a.2*2^a.1),0,?_⟩
    show execF _ _ _ _ _ (fun t=>t=quT (quarR x p)∨fgT t=quT (quarR x p))
    refine (qQu_vc x p _ preTry (fun x p w=>tryW (halfP w) x p w) _).mpr (br_intro (fun h=>.inr ?_) fun h=>br_intro (fun h1=>.inr ?_) fun h1=>br_intro (fun h2=>.inr ?_) fun h2=>?_)
    · rw [quarR,if_neg (by rw [not_true h];simp)];rfl
    · rw [quarR,if_neg (by have:=ltI_true.1 h1;omega)];rfl
    · rw [quarR,if_neg (by have:=ltI_true.1 h2;omega)];rfl
    have h:=not_false' h
    have h1:=ltI_false.1 h1
    have h2:=ltI_false.1 h2
    have bx:=(fits_bd h).one hx
    have xe:=fits_e h
    have y0:=oneD_p (d:=x)
    rw [quarR,if_pos ⟨h,by omega,by omega⟩]
    refine ⟨⟨by omega,by omega⟩,br_intro (fun h3=>.inr ?_) fun h3=>?_⟩
    · rw [if_pos (zeroB_true.1 h3)];rfl
    rw [if_neg (zeroB_false.1 h3)]
    have te:(oneD x).e+(blen (oneD x).m:Int)-1=topD (oneD x):=rfl
    have b1:=bx.lo
    have b2:=bx.hi
    have bp:=blen_pos (show 0<(oneD x).m by have:=zeroB_false.1 h3;omega)
    rw [te]
    refine ⟨⟨by omega,by omega⟩,br_intro (fun h4=>.inr ?_) fun h4=>?_⟩
    · rw [if_pos (leI_true.1 h4)];rfl
    have h4:=leI_false.1 h4
    rw [if_neg h4,maxI_eq,←hR]
    obtain ⟨t1,t2⟩:=top_lt y0 (by omega)
    refine ⟨⟨by omega,by omega⟩,⟨by omega,by omega⟩,⟨by omega,by omega⟩,rfl,⟨(9,max (topD (oneD x)) 0+p+64),⟨hR.symm,by omega,by omega,by omega,by show 16384≤(max (topD (oneD x)) 0+p+64)*2^9;omega⟩,rfl⟩,fun a ha=>?_⟩
    obtain ⟨n,w⟩:=a
    obtain ⟨e,n1,w0,w1,w2⟩:quarL (oneD x) p n w=R∧1≤n∧8≤w∧w≤16384∧16384≤w*2^n:=ha
    obtain ⟨m,rfl⟩:∃ m,n=m+1:=⟨n-1,by omega⟩
    rw [quarL] at e
    show preTry (oneD x) p (minI w 8192)∧br (tryP (oneD x) p (minI w 8192)).2.2 (br (rightV (tryP (oneD x) p (minI w 8192)).2.1) _ _) _
    rw [minI_eq]
    refine ⟨⟨⟨bx,t1,t2⟩,by omega,by omega,by omega⟩,?_⟩
    have fin:okW (oneD x) p (min w 8192)=false→min w 8192≠8192→inR (2*min w 8192)∧true=true∧∃ a':Nat×Int,(quarL (oneD x) p a'.1 a'.2=R∧1≤a'.1∧8≤a'.2∧a'.2≤16384∧16384≤a'.2*2^a'.1)∧quK.at (quSt (oneD x) p (0,2*min w 8192))=quK.at (quSt (oneD x) p a')∧a'.1<m+1:=fun ok hw=>by
      rw [if_neg (by rw [ok];simp),if_neg hw] at e
      have hm:min w 8192=w:=by omega
      rw [hm] at e ⊢
      rw [Int.pow_succ] at w2
      have m1:1≤m:=by
        refine Nat.pos_of_ne_zero fun hm0=>?_
        rw [hm0,Int.pow_zero] at w2;omega
      refine ⟨⟨by omega,by omega⟩,rfl,(m,2*w),⟨e,m1,by omega,by omega,?_⟩,rfl,Nat.lt_succ_self _⟩
      show 16384≤2*w*2^m
      rw [Int.mul_comm (2^m) 2,←Int.mul_assoc,Int.mul_comm w 2] at w2;exact w2
    have hard:okW (oneD x) p (min w 8192)=false→min w 8192=8192→R=(0,zeroIv,6):=fun ok hw=>by
      rw [if_neg (by rw [ok];simp),if_pos hw] at e
      exact e.symm
    refine br_intro (fun h5=>br_intro (fun h6=>⟨rfl,.inr ?_⟩) fun h6=>?_) fun h5=>?_
    · rw [if_pos (by unfold okW;rw [h5,h6];rfl)] at e
      rw [←e];rfl
    · have ok:okW (oneD x) p (min w 8192)=false:=by unfold okW;rw [h6,Bool.and_false]
      exact br_intro (fun h7=>.inr (by rw [hard ok (eqI_true.1 h7)];rfl)) fun h7=>fin ok (eqI_false.1 h7)
    · have ok:okW (oneD x) p (min w 8192)=false:=by unfold okW;rw [h5,Bool.false_and]
      exact br_intro (fun h7=>.inr (by rw [hard ok (eqI_true.1 h7)];rfl)) fun h7=>fin ok (eqI_false.1 h7)
def niTimes:Spec:=specK [.fx,.i .u64] fun (x:Fw) (n:Int)=>(some (x.Ok∧x.e≤549755813888∧0≤n∧n≤64),fxT (timesF x.f n))
theorem niTimes_vc(x:Fw)(n:Int)(Q:Tv→Prop):execF ⟨tys3,sNi⟩ (fun _=>none) 0 Tryz.f66 [.agg (fwL false x),.one (.int .u64 n)] Q=(Word n∧List.length (ws (val x.xs))+List.length (ws (val (ws n)))≤17592186044414∧true=true∧Q (Tv.sv (Sv.agg [At.words true (ws (val x.xs*val (ws n))),At.int .u64 (IntKind.wrap IntKind.u64 (x.e*n))]))):=by kernel_rfl
theorem niTimes_ok:SpecOk Tryz.prog 66 niTimes :=
  specKW_ok (envOk tys3_ok sNi_ok) mixed Tryz.func66 rfl (by decide) (by decide) fun (x:Fw) hx (n:Int) _ hp=>⟨fun _=>none,0,by
    obtain ⟨⟨l,e0,e1⟩,e2,n0,n1⟩:x.Ok∧x.e≤549755813888∧0≤n∧n≤64:=hp
    show execF _ _ _ _ _ (fun t=>t=fxT (timesF x.f n)∨fgT t=fxT (timesF x.f n))
    have w0:Word n:=⟨by omega,by omega⟩
    refine (niTimes_vc x n _).mpr ⟨w0,?_,rfl,.inr ?_⟩
    · rw [val_ws n0]
      have l1:=ws_len_blen (val_nonneg hx.1)
      have l3:blen (val x.xs)≤64*x.xs.length:=blen_le (by have:=val_lt hx.1;rwa [wpow_eq] at this)
      have l2:=ws_blen (k:=1073741824) n0 (by have:=blen_pow_le (n:=n) (k:=6) (by omega);omega)
      omega
    · rw [val_ws n0]
      have m0:=Int.mul_nonneg e0 n0
      have m1:=Int.mul_le_mul e2 n1 n0 (by omega)
      rw [wrap_w ⟨m0,by omega⟩];rfl⟩
def niK:LKeep:=⟨[0,1,6,7,8,9,10],[(0,2),(5,2),(9,2),(10,2)],11⟩
def niSt(n:Int)(b:Bool)(P S0 S1:Nat→Fx)(a:Nat×Bool):List (Nat×Tv)×List (Nat×Nat×At) :=
  ([(0,.sv (.one (.int .u64 n))),(1,bT b),(6,.sv (.one (.ptr 0 0))),(7,.sv (.one (.ptr 5 0))),(8,.sv (.one (.ptr 9 0))),(9,.sv (.one (.ptr 10 0))),(10,.sv (.one (.int .u64 (2*(a.1:Nat)+3))))],
   [(0,0,.words true []),(0,1,.int .u64 0)] ++ (clX 5 0 false (fw (P a.1)) ++ (clX 9 0 false (fw (S0 (a.1+1))) ++ clX 10 0 a.2 (fw (S1 (a.1+1))))))
def niInvL(n:Int)(b:Bool)(P S0 S1:Nat→Fx)(K:Nat):Nat→Option LInv:=invAt 4 (.rel niK (Nat×Bool) (niSt n b P S0 S1) (fun a=>a.1≤K) (fun a=>K-a.1))
theorem niInv_vc(n q:Int)(b:Bool)(P S0 S1:Nat→Fx)(K:Nat)(Q:Tv→Prop):execF ⟨tys3,sNi⟩ (niInvL n b P S0 S1 K) 0 Tryz.f67 [.one (.int .u64 n),.one (.bool b),.one (.int .i64 q)] Q=(((0:Int)≤q∧q≤16777216)∧((0:Int)≤(fw (Fx.mk ((2:Int)^Int.toNat q) 0)).e∧(fw (Fx.mk ((2:Int)^Int.toNat q) 0)).e≤1099511627776∧(0:Int)<n∧n≤4294967296)∧true=true∧(∃ (a:Nat×Bool),a.fst≤K∧Sg.mk [(0,Tv.sv (Sv.one (At.int .u64 n))),(1,bT b),(6,Tv.sv (Sv.one (At.ptr 0 0))),(7,Tv.sv (Sv.one (At.ptr ((1:Nat)+4) 0))),(8,Tv.sv (Sv.one (At.ptr ((7:Nat)+2) 0))),(9,Tv.sv (Sv.one (At.ptr ((7:Nat)+3) 0))),(10,Tv.sv (Sv.one (At.int .u64 3)))] [(0,0,At.words true []),(0,1,At.int .u64 0),(5,0,At.words false (fw (shortF (Fw.f (fw (Fx.mk ((2:Int)^Int.toNat q) 0))) n)).xs),(5,1,At.int .u64 (fw (shortF (Fw.f (fw (Fx.mk ((2:Int)^Int.toNat q) 0))) n)).e),(9,0,At.words false (fw (shortF (Fw.f (fw (Fx.mk ((2:Int)^Int.toNat q) 0))) n)).xs),(9,1,At.int .u64 (fw (shortF (Fw.f (fw (Fx.mk ((2:Int)^Int.toNat q) 0))) n)).e),(10,0,At.words true []),(10,1,At.int .u64 0)] 11=LKeep.at niK (niSt n b P S0 S1 a))∧∀ (a:Nat×Bool),a.fst≤K→br (ltI 0 (↑(List.length (fw (P a.fst)).xs):Int)) (((0:Int)≤(fw (P a.fst)).e∧(fw (P a.fst)).e≤1099511627776∧(0:Int)<n∧n≤4294967296)∧((0:Int)≤(fw (shortF (Fw.f (fw (P a.fst))) n)).e∧(fw (shortF (Fw.f (fw (P a.fst))) n)).e≤1099511627776∧(0:Int)<n∧n≤4294967296)∧((0:Int)≤(fw (shortF (Fw.f (fw (shortF (Fw.f (fw (P a.fst))) n))) n)).e∧(fw (shortF (Fw.f (fw (shortF (Fw.f (fw (P a.fst))) n))) n)).e≤1099511627776∧(0:Int)<2*(↑a.fst:Int)+3∧(2:Int)*(↑a.fst:Int)+3≤4294967296)∧br b ((4:Int)≠0∧br (eqI (Int.tmod ((2:Int)*(↑a.fst:Int)+3) 4) 3) ((Fw.Ok (fw (S1 (a.fst+1)))∧Fw.Ok (fw (shortF (Fw.f (fw (shortF (Fw.f (fw (shortF (Fw.f (fw (P a.fst))) n))) n))) ((2:Int)*(↑a.fst:Int)+3))))∧true=true∧∃ (a':Nat×Bool),a'.fst≤K∧Sg.mk [(0,Tv.sv (Sv.one (At.int .u64 n))),(1,bT b),(6,Tv.sv (Sv.one (At.ptr 0 0))),(7,Tv.sv (Sv.one (At.ptr 5 0))),(8,Tv.sv (Sv.one (At.ptr 9 0))),(9,Tv.sv (Sv.one (At.ptr 10 0))),(10,Tv.sv (Sv.one (At.int .u64 (IntKind.wrap IntKind.u64 ((2:Int)*(↑a.fst:Int)+3+2)))))] [(0,0,At.words true []),(0,1,At.int .u64 0),(5,0,At.words false (fw (shortF (Fw.f (fw (shortF (Fw.f (fw (P a.fst))) n))) n)).xs),(5,1,At.int .u64 (fw (shortF (Fw.f (fw (shortF (Fw.f (fw (P a.fst))) n))) n)).e),(9,0,At.words false (fw (S0 (a.fst+1))).xs),(9,1,At.int .u64 (fw (S0 (a.fst+1))).e),(10,0,At.words false (fw (addF (Fw.f (fw (S1 (a.fst+1)))) (Fw.f (fw (shortF (Fw.f (fw (shortF (Fw.f (fw (shortF (Fw.f (fw (P a.fst))) n))) n))) ((2:Int)*(↑a.fst:Int)+3)))))).xs),(10,1,At.int .u64 (fw (addF (Fw.f (fw (S1 (a.fst+1)))) (Fw.f (fw (shortF (Fw.f (fw (shortF (Fw.f (fw (shortF (Fw.f (fw (P a.fst))) n))) n))) ((2:Int)*(↑a.fst:Int)+3)))))).e)] 11=LKeep.at niK (niSt n b P S0 S1 a')∧K-a'.fst<K-a.fst) ((Fw.Ok (fw (S0 (a.fst+1)))∧Fw.Ok (fw (shortF (Fw.f (fw (shortF (Fw.f (fw (shortF (Fw.f (fw (P a.fst))) n))) n))) ((2:Int)*(↑a.fst:Int)+3))))∧true=true∧∃ (a':Nat×Bool),a'.fst≤K∧Sg.mk [(0,Tv.sv (Sv.one (At.int .u64 n))),(1,bT b),(6,Tv.sv (Sv.one (At.ptr 0 0))),(7,Tv.sv (Sv.one (At.ptr 5 0))),(8,Tv.sv (Sv.one (At.ptr 9 0))),(9,Tv.sv (Sv.one (At.ptr 10 0))),(10,Tv.sv (Sv.one (At.int .u64 (IntKind.wrap IntKind.u64 ((2:Int)*(↑a.fst:Int)+3+2)))))] [(0,0,At.words true []),(0,1,At.int .u64 0),(5,0,At.words false (fw (shortF (Fw.f (fw (shortF (Fw.f (fw (P a.fst))) n))) n)).xs),(5,1,At.int .u64 (fw (shortF (Fw.f (fw (shortF (Fw.f (fw (P a.fst))) n))) n)).e),(9,0,At.words false (fw (addF (Fw.f (fw (S0 (a.fst+1)))) (Fw.f (fw (shortF (Fw.f (fw (shortF (Fw.f (fw (shortF (Fw.f (fw (P a.fst))) n))) n))) ((2:Int)*(↑a.fst:Int)+3)))))).xs),(9,1,At.int .u64 (fw (addF (Fw.f (fw (S0 (a.fst+1)))) (Fw.f (fw (shortF (Fw.f (fw (shortF (Fw.f (fw (shortF (Fw.f (fw (P a.fst))) n))) n))) ((2:Int)*(↑a.fst:Int)+3)))))).e),(10,0,At.words a.snd (fw (S1 (a.fst+1))).xs),(10,1,At.int .u64 (fw (S1 (a.fst+1))).e)] 11=LKeep.at niK (niSt n b P S0 S1 a')∧K-a'.fst<K-a.fst)) ((Fw.Ok (fw (S0 (a.fst+1)))∧Fw.Ok (fw (shortF (Fw.f (fw (shortF (Fw.f (fw (shortF (Fw.f (fw (P a.fst))) n))) n))) ((2:Int)*(↑a.fst:Int)+3))))∧true=true∧∃ (a':Nat×Bool),a'.fst≤K∧Sg.mk [(0,Tv.sv (Sv.one (At.int .u64 n))),(1,bT b),(6,Tv.sv (Sv.one (At.ptr 0 0))),(7,Tv.sv (Sv.one (At.ptr 5 0))),(8,Tv.sv (Sv.one (At.ptr 9 0))),(9,Tv.sv (Sv.one (At.ptr 10 0))),(10,Tv.sv (Sv.one (At.int .u64 (IntKind.wrap IntKind.u64 ((2:Int)*(↑a.fst:Int)+3+2)))))] [(0,0,At.words true []),(0,1,At.int .u64 0),(5,0,At.words false (fw (shortF (Fw.f (fw (shortF (Fw.f (fw (P a.fst))) n))) n)).xs),(5,1,At.int .u64 (fw (shortF (Fw.f (fw (shortF (Fw.f (fw (P a.fst))) n))) n)).e),(9,0,At.words false (fw (addF (Fw.f (fw (S0 (a.fst+1)))) (Fw.f (fw (shortF (Fw.f (fw (shortF (Fw.f (fw (shortF (Fw.f (fw (P a.fst))) n))) n))) ((2:Int)*(↑a.fst:Int)+3)))))).xs),(9,1,At.int .u64 (fw (addF (Fw.f (fw (S0 (a.fst+1)))) (Fw.f (fw (shortF (Fw.f (fw (shortF (Fw.f (fw (shortF (Fw.f (fw (P a.fst))) n))) n))) ((2:Int)*(↑a.fst:Int)+3)))))).e),(10,0,At.words a.snd (fw (S1 (a.fst+1))).xs),(10,1,At.int .u64 (fw (S1 (a.fst+1))).e)] 11=LKeep.at niK (niSt n b P S0 S1 a')∧K-a'.fst<K-a.fst)) ((Fw.Ok (Fw.mk (fw (S0 (a.fst+1))).xs (IntKind.wrap IntKind.u64 ((fw (S0 (a.fst+1))).e+4)))∧Fw.Ok (Fw.mk (fw (S1 (a.fst+1))).xs (IntKind.wrap IntKind.u64 ((fw (S1 (a.fst+1))).e+4)))∧(Fw.f (Fw.mk (fw (S1 (a.fst+1))).xs (IntKind.wrap IntKind.u64 ((fw (S1 (a.fst+1))).e+4)))).a+(Fw.f (Fw.mk (fw (S1 (a.fst+1))).xs (IntKind.wrap IntKind.u64 ((fw (S1 (a.fst+1))).e+4)))).e≤(Fw.f (Fw.mk (fw (S0 (a.fst+1))).xs (IntKind.wrap IntKind.u64 ((fw (S0 (a.fst+1))).e+4)))).a)∧Q (Tv.sv (Sv.agg (fwL false (fw (subF (Fw.f (Fw.mk (fw (S0 (a.fst+1))).xs (IntKind.wrap IntKind.u64 ((fw (S0 (a.fst+1))).e+4)))) (Fw.f (Fw.mk (fw (S1 (a.fst+1))).xs (IntKind.wrap IntKind.u64 ((fw (S1 (a.fst+1))).e+4))))))))))):=by kernel_rfl
section
variable {n w:Int} (h:InvOk n w)
include h
theorem refP_le(k:Nat):0≤(refP n w k).a∧(refP n w k).a≤2^w.toNat:=by
  have a0:=(refP_in h k).a0
  have s:=refP_small h k
  have p:=two_pow_pos k
  have m:=imL (show (1:Int)≤2^k by omega) a0
  exact ⟨a0,by omega⟩
theorem refP_ok(k:Nat):(refP n w k).Ok:=by
  have a:=refP_le h k
  have e:=refP_e h k
  exact fx_small h a.1 (by omega) (by omega) (by omega)
theorem refT_ok(k:Nat):(refT n w k).Ok:=by
  have a:=refP_le h k
  have b:=refT_le h k
  have c:=(refT_in h k).a0
  have e:=refT_e h k
  exact fx_small h c (by omega) (by omega) (by omega)
theorem refM_ok(b:Nat){k:Nat}(hk:(k:Int)≤w+2):(SmT (refT n w) b k).Ok∧(SmT (refT n w) b k).e≤131080:=by
  have a:=smR_a h b k
  have p0:=(refP_in h k).a0
  have q:=refP_le h 0
  have e:=smR_e h b k
  have w1:=h.w1
  exact ⟨fx_small h a.1 (by omega) e.1 (by omega),by omega⟩
end
def niInv:Spec:=specK [.i .u64,.b,.i .i64] fun (n:Int) (b:Bool) (q:Int)=>(some (b=true∧InvOk n q),fxT (refS n q))
theorem niInv_ok:SpecOk Tryz.prog 67 niInv :=
  specKW_ok (envOk tys3_ok sNi_ok) mixed Tryz.func67 rfl (by decide) (by decide) fun (n:Int) _ (b:Bool) _ (q:Int) _ hp=>by
    obtain ⟨rfl,h⟩:b=true∧InvOk n q:=hp
    refine ⟨niInvL n true (refP n q) (SmT (refT n q) 0) (SmT (refT n q) 1) (refK n q),0,?_⟩
    show execF _ _ _ _ _ (fun t=>t=fxT (refS n q)∨fgT t=fxT (refS n q))
    refine (niInv_vc n q true (refP n q) (SmT (refT n q) 0) (SmT (refT n q) 1) (refK n q) _).mpr ?_
    have n0:=h.n0
    have n1:=h.n1
    have w0:=h.w0
    have w1:=h.w1
    have p:=two_pow_pos q.toNat
    obtain ⟨k2,k3,k4⟩:=refK_spec h
    have ew:∀ z:Fx,(fw z).e=z.e:=fun _=>rfl
    have x1:(fw (⟨2^q.toNat,0⟩:Fx)).f=⟨2^q.toNat,0⟩:=fw_f (by show (0:Int)≤2^q.toNat;omega)
    have xs0:fw (⟨0,0⟩:Fx)=⟨[],0⟩:=by show (⟨ws 0,0⟩:Fw)=_;rw [ws_zero]
    have S01:SmT (refT n q) 0 (0+1)=refP n q 0:=by
      show addF ⟨0,0⟩ (refP n q 0)=_
      show (⟨0+_,0+_⟩:Fx)=_
      rw [Int.zero_add,Int.zero_add]
    have S11:SmT (refT n q) 1 (0+1)=⟨0,0⟩:=rfl
    rw [x1,ew]
    refine ⟨⟨by omega,by omega⟩,⟨Int.le_refl _,by show (0:Int)≤_;omega,by omega,by omega⟩,rfl,⟨(0,true),Nat.zero_le _,?_⟩,fun a ha=>?_⟩
    · unfold LKeep.at niSt
      dsimp only
      rw [S01,S11,xs0];rfl
    · obtain ⟨k,nb⟩:=a
      have ha:k≤refK n q:=ha
      have oP:=refP_ok h k
      have eP:=refP_e h k
      have hl:ltI 0 ((fw (refP n q k)).xs.length:Nat)=decide ((refP n q k).a≠0):=len_pos oP.1
      have fP:(fw (refP n q k)).f=refP n q k:=fw_f oP.1
      have z1:=shortF_e0 (d:=n) oP.1 (show 0≤(refP n q k).e by omega) (by omega)
      have f1:(fw (shortF (refP n q k) n)).f=shortF (refP n q k) n:=fw_f z1.1
      have eP1:shortF (shortF (refP n q k) n) n=refP n q (k+1):=rfl
      have oP1:=refP_ok h (k+1)
      have ee1:=refP_e h (k+1)
      have f2:(fw (refP n q (k+1))).f=refP n q (k+1):=fw_f oP1.1
      have eT:shortF (refP n q (k+1)) (2*((k:Nat):Int)+3)=refT n q (k+1):=by
        show _=shortF (refP n q (k+1)) (2*((k+1:Nat):Int)+1)
        congr 1
      have oT:=refT_ok h (k+1)
      have fT:(fw (refT n q (k+1))).f=refT n q (k+1):=fw_f oT.1
      have wk:IntKind.u64.wrap (2*(k:Int)+3+2)=2*((k+1:Nat):Int)+3:=by rw [wrap_w ⟨by omega,by omega⟩];omega
      have o0:=refM_ok h 0 (k:=k+1) (by omega)
      have o1:=refM_ok h 1 (k:=k+1) (by omega)
      have m0:(fw (SmT (refT n q) 0 (k+1))).f=SmT (refT n q) 0 (k+1):=fw_f o0.1.1
      have m1:(fw (SmT (refT n q) 1 (k+1))).f=SmT (refT n q) 1 (k+1):=fw_f o1.1.1
      show br (ltI 0 ((fw (refP n q k)).xs.length:Nat)) _ _
      rw [hl]
      refine br_intro (fun hc=>?_) fun hc=>?_
      · have hne:(refP n q k).a≠0:=of_decide_eq_true hc
        have hkK:k<refK n q:=by
          rcases Nat.lt_or_ge k (refK n q) with c | c
          · exact c
          · have:k=refK n q:=by omega
            rw [this] at hne;exact absurd k3 hne
        show _∧_∧_∧br true _ _
        dsimp only
        rw [fP,f1,eP1,f2,eT,fT,m0,m1,wk,ew,ew,ew]
        have tm:Int.tmod (2*(k:Int)+3) 4=(2*(k:Int)+3) % 4:=Int.tmod_eq_emod_of_nonneg (by omega)
        refine ⟨⟨by omega,by omega,by omega,by omega⟩,⟨by omega,by omega,by omega,by omega⟩,⟨by omega,by omega,by omega,by omega⟩,br_intro (fun _=>⟨by decide,br_intro (fun h3=>⟨⟨o1.1.w,oT.w⟩,rfl,(k+1,false),hkK,?_,by show refK n q-(k+1)<refK n q-k;omega⟩) fun h3=>⟨⟨o0.1.w,oT.w⟩,rfl,(k+1,nb),hkK,?_,by show refK n q-(k+1)<refK n q-k;omega⟩⟩) fun h3=>by cases h3⟩
        · have h3:=eqI_true.1 h3
          rw [tm] at h3
          have s1:SmT (refT n q) 1 (k+1+1)=addF (SmT (refT n q) 1 (k+1)) (refT n q (k+1)):=if_pos (by omega)
          have s0:SmT (refT n q) 0 (k+1+1)=SmT (refT n q) 0 (k+1):=if_neg (by omega)
          unfold LKeep.at niSt
          dsimp only
          rw [s1,s0];rfl
        · have h3:=eqI_false.1 h3
          rw [tm] at h3
          have s1:SmT (refT n q) 1 (k+1+1)=SmT (refT n q) 1 (k+1):=if_neg (by omega)
          have s0:SmT (refT n q) 0 (k+1+1)=addF (SmT (refT n q) 0 (k+1)) (refT n q (k+1)):=if_pos (by omega)
          unfold LKeep.at niSt
          dsimp only
          rw [s1,s0];rfl
      · have hz:(refP n q k).a=0:=by have:=of_decide_eq_false hc;omega
        have hkK:k=refK n q:=by
          rcases Nat.lt_or_ge k (refK n q) with c | c
          · exact absurd hz (k4 k c)
          · omega
        dsimp only
        have wd:∀ b,(SmT (refT n q) b (k+1)).Ok∧(SmT (refT n q) b (k+1)).e≤131080→(⟨(fw (SmT (refT n q) b (k+1))).xs,IntKind.u64.wrap ((fw (SmT (refT n q) b (k+1))).e+4)⟩:Fw)=fw (widerF (SmT (refT n q) b (k+1)) 4):=fun b o=>by
          rw [ew,wrap_w ⟨by have:=o.1.2.2.1;omega,by have:=o.2;omega⟩];rfl
        have ow:∀ b,(SmT (refT n q) b (k+1)).Ok∧(SmT (refT n q) b (k+1)).e≤131080→(widerF (SmT (refT n q) b (k+1)) 4).Ok:=fun b o=>⟨o.1.1,o.1.2.1,by show 0≤_+4;have:=o.1.2.2.1;omega,by show _+4≤_;have:=o.2;omega⟩
        rw [wd 0 o0,wd 1 o1,fw_f (ow 0 o0).1,fw_f (ow 1 o1).1]
        have bd:=refS_bd h
        have eS:refS n q=subF (widerF (SmT (refT n q) 0 (k+1)) 4) (widerF (SmT (refT n q) 1 (k+1)) 4):=by rw [hkK];rfl
        have ea:(refS n q).a=(widerF (SmT (refT n q) 0 (k+1)) 4).a-((widerF (SmT (refT n q) 1 (k+1)) 4).a+(widerF (SmT (refT n q) 1 (k+1)) 4).e):=by rw [eS];rfl
        refine ⟨⟨(ow 0 o0).w,(ow 1 o1).w,by omega⟩,.inl ?_⟩
        rw [eS]
theorem refS_ok{n w t:Int}(h:InvOk n w)(t0:1≤t)(t1:t≤64):(timesF (refS n w) t).Ok∧(refS n w).Ok∧(refS n w).e≤549755813888:=by
  have g:=refS_bd h
  have w0:=h.w0
  have w1:=h.w1
  have q:=refP_le h 0
  have a0:=Int.mul_nonneg g.1 (show 0≤t by omega)
  have a1:=Int.mul_le_mul (show (refS n w).a≤2*2^w.toNat by omega) t1 (by omega) (by omega)
  have e0:=Int.mul_nonneg g.2.2.1 (show 0≤t by omega)
  have e1:=Int.mul_le_mul g.2.2.2.1 t1 (by omega) (by omega)
  have b:blen ((refS n w).a*t)≤w.toNat+7+1:=blen_pow_le (by
    rw [show (2:Int)^(w.toNat+7)=2^w.toNat*128 by rw [Int.pow_add];rfl];omega)
  exact ⟨⟨a0,by show blen ((refS n w).a*t)≤_;omega,e0,by show (refS n w).e*t≤_;omega⟩,fx_small h g.1 (by omega) g.2.2.1 (by omega),by omega⟩
theorem piR_gap{w:Int}(w0:32≤w)(w1:w≤65536):(timesF (refS 239 w) 4).a+(timesF (refS 239 w) 4).e≤(timesF (refS 5 w) 16).a:=by
  have h:=(piR_e w0 w1).1
  have e1:(piR w).a=(timesF (refS 5 w) 16).a-((timesF (refS 239 w) 4).a+(timesF (refS 239 w) 4).e):=rfl
  omega
theorem piR_ok{w:Int}(w0:32≤w)(w1:w≤65536):(piR w).Ok:=by
  obtain ⟨a0,e0,e1,a1⟩:=piR_e w0 w1
  have b:blen (piR w).a≤w.toNat+5+1:=blen_pow_le (by
    rw [show (2:Int)^(w.toNat+5)=2^w.toNat*32 by rw [Int.pow_add];rfl];omega)
  exact ⟨a0,by omega,e0,by omega⟩
def sNp(fS:Int→Int→Fx)(pr:Int→Int→Prop):List (FuncId×Spec):=[(67,specK [.i .u64,.b,.i .i64] fun (n:Int) (b:Bool) (q:Int)=>(some (b=true∧pr n q),fxT (fS n q))),(66,niTimes),(65,niSub)]
theorem sNp_ok:SpecsOk Tryz.prog (sNp refS InvOk):=⟨niInv_ok,niTimes_ok,niSub_ok,trivial⟩
theorem niPi_vc(q:Int)(fS:Int→Int→Fx)(pr:Int→Int→Prop)(Q:Tv→Prop):execF ⟨tys3,sNp fS pr⟩ (fun _=>none) 0 Tryz.f29 [.one (.int .i64 q)] Q=((true=true∧pr 5 q)∧(Fw.Ok (fw (fS 5 q))∧(fw (fS 5 q)).e≤549755813888∧(0:Int)≤16∧(16:Int)≤64)∧(true=true∧pr 239 q)∧(Fw.Ok (fw (fS 239 q))∧(fw (fS 239 q)).e≤549755813888∧(0:Int)≤4∧(4:Int)≤64)∧(Fw.Ok (fw (timesF (Fw.f (fw (fS 5 q))) 16))∧Fw.Ok (fw (timesF (Fw.f (fw (fS 239 q))) 4))∧(Fw.f (fw (timesF (Fw.f (fw (fS 239 q))) 4))).a+(Fw.f (fw (timesF (Fw.f (fw (fS 239 q))) 4))).e≤(Fw.f (fw (timesF (Fw.f (fw (fS 5 q))) 16))).a)∧Q (Tv.sv (Sv.agg (fwL false (fw (subF (Fw.f (fw (timesF (Fw.f (fw (fS 5 q))) 16))) (Fw.f (fw (timesF (Fw.f (fw (fS 239 q))) 4))))))))):=by kernel_rfl
def niPi:Spec:=specK [.i .i64] fun (q:Int)=>(some (32≤q∧q≤65536),fxT (piR q))
theorem niPi_ok:SpecOk Tryz.prog 29 niPi :=
  specKW_ok (envOk tys3_ok sNp_ok) mixed Tryz.func29 rfl (by decide) (by decide) fun (q:Int) _ hp=>⟨fun _=>none,0,by
    obtain ⟨w0,w1⟩:32≤q∧q≤65536:=hp
    have h5:InvOk 5 q:=⟨by omega,by omega,w0,w1⟩
    have h2:InvOk 239 q:=⟨by omega,by omega,w0,w1⟩
    obtain ⟨o5,p5,l5⟩:=refS_ok h5 (t:=16) (by omega) (by omega)
    obtain ⟨o2,p2',l2⟩:=refS_ok h2 (t:=4) (by omega) (by omega)
    show execF _ _ _ _ _ (fun t=>t=fxT (piR q)∨fgT t=fxT (piR q))
    refine (niPi_vc q refS InvOk _).mpr ?_
    rw [fw_f p5.1,fw_f p2'.1,fw_f o5.1,fw_f o2.1]
    exact ⟨⟨rfl,h5⟩,⟨p5.w,l5,by omega,by omega⟩,⟨rfl,h2⟩,⟨p2'.w,l2,by omega,by omega⟩,⟨o5.w,o2.w,piR_gap w0 w1⟩,.inl rfl⟩⟩
def sHp(fP:Int→Fx)(pr:Int→Prop):List (FuncId×Spec):=[(29,specK [.i .i64] fun (q:Int)=>(some (pr q),fxT (fP q))),(28,niIval)]
theorem sHp_ok:SpecsOk Tryz.prog (sHp piR (fun q=>32≤q∧q≤65536)):=⟨niPi_ok,niIval_ok,trivial⟩
theorem hPi_vc(w:Int)(fP:Int→Fx)(pr:Int→Prop)(Q:Tv→Prop):execF ⟨tys3,sHp fP pr⟩ (fun _=>none) 0 Tryz.f6 [.one (.int .i64 w)] Q=(pr w∧(Fw.Ok (fw (fP w))∧(0:Int)≤w∧w≤16777216)∧Q (Tv.sv (Sv.agg (ivL true (ivF (Fw.f (fw (fP w))) w))))):=by kernel_rfl
def hPi:Spec:=specK [.i .i64] fun (w:Int)=>(some (32≤w∧w≤65536),vT (refPi w))
theorem hPi_ok:SpecOk Tryz.prog 6 hPi :=
  specK_ok (envOk tys3_ok sHp_ok) mixed Tryz.func6 rfl (by decide) (by decide) fun (w:Int) _ hp=>⟨fun _=>none,0,by
    obtain ⟨w0,w1⟩:32≤w∧w≤65536:=hp
    have o:=piR_ok w0 w1
    show execF _ _ _ _ _ (fun t=>t=vT (refPi w))
    refine (hPi_vc w piR (fun q=>32≤q∧q≤65536) _).mpr ?_
    rw [fw_f o.1]
    exact ⟨⟨w0,w1⟩,⟨o.w,by omega,by omega⟩,rfl⟩⟩
theorem refPi_bd{w:Int}(w0:64≤w)(w1:w≤65536):(refPi w).Bd w 7:=by
  obtain ⟨a0,e0,e1,a1⟩:=piR_e (w:=w) (by omega) (by omega)
  exact ivF_bd w0 w1 a0 e0 e1 a1
section
variable {d:Rat} {h:Vx} (k:HfIv d h) {x:Dx} (hx:0≤x.m) {w:Int} (hw:1≤w)
include k hx hw
end
def wsK:Nat→Int→List Int
  | 0,_=>[]
  | k+1,n=>if 0<n then (n % 18446744073709551616) :: wsK k (n/18446744073709551616) else []
theorem wsK_eq:∀ {k:Nat} {n:Int},n<2^k→ws n=wsK k n
  | 0,n,h=>by rw [ws_nonpos (by simp at h;omega)];rfl
  | k+1,n,h=>by
    unfold wsK
    by_cases hp:0<n
    · have p:=two_pow_pos k
      rw [Int.pow_succ] at h
      rw [ws_pos hp,if_pos hp,wsK_eq (k:=k) (by omega)]
    · rw [ws_nonpos (by omega),if_neg hp]
theorem ws_K(n:Int):ws n=wsK (blen n) n:=wsK_eq (blen_lt n)
def fitsK(d:Dx):Bool:=decide ((wsK (blen d.m) d.m).length≤1024) && decide (-32768≤d.e) && decide (d.e≤32768)
def rightK(v:Vx):Bool:=fitsK v.lo && (fitsK v.hi && decide (cmpD v.lo v.hi≤0))
theorem great_K(m:Int):(!greatB m)=decide ((wsK (blen m) m).length≤1024):=by
  unfold greatB;rw [←ws_K]
  by_cases h:(ws m).length≤1024
  · rw [decide_eq_true h,decide_eq_false (by omega)];rfl
  · rw [decide_eq_false h,decide_eq_true (by omega)];rfl
theorem fits_K(d:Dx):d.fitsB=fitsK d:=by unfold Dx.fitsB fitsK;rw [great_K]
theorem right_K(v:Vx):rightV v=rightK v:=by unfold rightV rightK;rw [fits_K,fits_K]
theorem p2_v:p2 0=1∧p2 1=2∧p2 (-1)=1/2∧p2 (-2)=1/4:=by decide +kernel
def farD(d:Dx):Bool:=!d.zeroB && ltI (d.e+(blen d.m:Int)-1) (-16384)
def sndR(v:Vx)(w:Int):Vx×Int:=if w=0∧rightV v=false then (zeroIv,6) else (v,w)
def wTrue:Spec:=specK [] (none,bT true)
theorem amt_same{a b:Dx}(ha:0≤a.m)(hb:0≤b.m)(h:a.rv=b.rv):(a.m:Rat)*p2 a.e=(b.m:Rat)*p2 b.e:=by
  have x:=rv_amt ha
  have y:=rv_amt hb
  rcases Rat.le_total (a:=0) (b:=a.rv) with k | k
  · rw [←x.1 k,←y.1 (h ▸ k),h]
  · rw [←x.2 k,←y.2 (h ▸ k),h]
theorem near_zero{t:Dx}(ht:0≤t.m)(h:farD t=false)(h0:t.rv≠0):p2 (-16384)≤((oneD t).m:Rat)*p2 (oneD t).e∧p2 (-16384)≤(t.m:Rat)*p2 t.e:=by
  have hm:0<t.m:=by have:=rv_ne h0;omega
  have hz:t.zeroB=false:=zeroB_false.2 (by omega)
  rw [farD,hz] at h
  have k:=ltI_false.1 (show ltI (t.e+(blen t.m:Int)-1) (-16384)=false from h)
  have r:=Rat.le_trans (p2_le (show (-16384:Int)≤t.e+(blen t.m:Int)-1 by omega)) (amt_ge (e:=t.e) hm)
  rw [amt_same oneD_p ht (rv_one ht)]
  exact ⟨r,r⟩
structure Ans (s:Nat→Rat) (v:Vx):Prop where
  p:v.P
  right:rightV v=true
  enc:Enc s v.lo.rv v.hi.rv
theorem zero_rv:(⟨false,[],0⟩:Dx).rv=0:=rv_zero rfl
theorem cutD_zero(p:Int)(up:Bool)(hp:0≤p):cutD ⟨false,[],0⟩ p up=⟨false,[],0⟩:=by
  have o:oneD ⟨false,[],0⟩=⟨false,[],0⟩:=(oneD_f (Int.le_refl _)).zero (zeroB_true.1 ((zeroB_rv oneD_p).2 ((rv_one (Int.le_refl _)).trans zero_rv)))
  unfold cutD cutX
  rw [o,if_pos (by
    have:(blen (⟨false,[],0⟩:Dx).m:Int)=0:=by rw [show (⟨false,[],0⟩:Dx).m=0 from rfl];rfl
    omega)]
theorem trim_zero(p:Int)(hp:0≤p):trimV zeroIv p=zeroIv:=by
  show (⟨cutD ⟨false,[],0⟩ p false,cutD ⟨false,[],0⟩ p true⟩:Vx)=zeroIv
  rw [cutD_zero _ _ hp,cutD_zero _ _ hp];rfl
theorem zero_right:rightV zeroIv=true:=by rw [right_K];decide
theorem zero_ans{s:Nat→Rat}(h:Enc s 0 0):Ans s zeroIv:=⟨⟨Int.le_refl _,Int.le_refl _⟩,zero_right,by
  show Enc s (⟨false,[],0⟩:Dx).rv (⟨false,[],0⟩:Dx).rv
  rw [zero_rv];exact h⟩
theorem ans_cut{w:Vx}{s:Nat→Rat}{δ:Rat}{A B p:Int}(hw:w.P)(E:Enc s w.lo.rv w.hi.rv)(h:VM δ (p2 A) (p2 B) w)(d0:0≤δ)(hd:δ≤p2 (-6-p))(p0:0≤p)(p1:p≤8000)(hA:-20000≤A)(hB:B≤100) :
    cutR w p=(trimV w (p+8),0)∧Ans s (trimV w (p+8))∧VM (p2 (-4-p)) (p2 (A-1)) (p2 (B+1)) (trimV w (p+8)):=by
  have c:=cut_vm hw h d0 hd p0
  have r:=cut_right hw c (by omega) (by omega) (by omega) (by omega)
  exact ⟨by rw [cutR,if_pos r],⟨trimV_p w _,r,enc_trim hw (by omega) E⟩,c⟩
theorem sin_zero{t:Dx}{p:Int}(ht:0≤t.m)(hf:faultD t p=0)(h0:t.rv=0):sinR t p=(zeroIv,0)∧sinH t p=(zeroIv,0):=by
  have a:sineV (oneD t) p=zeroIv:=by rw [sineV,if_pos ((sine_zero oneD_p).2 ((rv_one ht).trans h0))]
  have b:sineH t p=zeroIv:=by rw [sineH,if_pos ((sine_zero ht).2 h0)]
  rw [sinR,sinH,if_pos hf,if_pos hf,a,b,cutR,trim_zero _ (by have:=fault0 ht hf;omega),if_pos zero_right]
  exact ⟨rfl,rfl⟩
theorem sin_ok{t:Dx}{p:Int}(ht:0≤t.m)(hf:faultD t p=0)(hn:farD t=false)(h0:t.rv≠0) :
    (sinR t p).2=0∧Ans (sinS t.rv) (sinR t p).1∧VM (p2 (-4-p)) (p2 (-16389)) (p2 5) (sinR t p).1:=by
  obtain ⟨f1,f2,f3,f4⟩:=fault0 ht hf
  have V:=sineV_iv (t:=oneD t) (p:=p) oneD_p (small_one ht f4) (by rw [rv_one ht];exact h0) (near_zero ht hn h0).1 (by omega) (by omega)
  rw [rv_one ht] at V
  have c:=ans_cut (p:=p) V.1 V.2.1 V.2.2 (rlL (p2_pos _)) (p2_le (by omega)) (by omega) (by omega) (by omega) (by omega)
  rw [sinR,if_pos hf,c.1]
  exact ⟨rfl,c.2.1,c.2.2⟩
theorem cos_ok{t:Dx}{p:Int}(ht:0≤t.m)(hf:faultD t p=0) :
    (cosR t p).2=0∧Ans (cosS t.rv) (cosR t p).1∧VM (p2 (-4-p)) (p2 (-3)) (p2 3) (cosR t p).1:=by
  obtain ⟨f1,f2,f3,f4⟩:=fault0 ht hf
  have V:=cosineV_iv (t:=oneD t) (p:=p) oneD_p (small_one ht f4) (by omega) (by omega)
  rw [rv_one ht] at V
  have c:=ans_cut (p:=p) V.1 V.2.1 (.inl V.2.2) (rlL (p2_pos _)) (p2_le (by omega)) (by omega) (by omega) (by omega) (by omega)
  rw [cosR,if_pos hf,c.1]
  exact ⟨rfl,c.2.1,c.2.2⟩
theorem le_eq{a b:Rat}(h:a=b):a≤b:=h ▸ Rat.le_refl
theorem sin_enc{t:Dx}{p:Int}(ht:0≤t.m)(h:(sinR t p).2=0):faultD t p=0∧Ans (sinS t.rv) (sinR t p).1:=by
  have hf:faultD t p=0:=by
    unfold sinR at h;split at h
    · assumption
    · exact h
  refine ⟨hf,?_⟩
  by_cases h0:t.rv=0
  · rw [(sin_zero ht hf h0).1,h0];exact zero_ans enc_sin0
  · obtain ⟨f1,f2,f3,f4⟩:=fault0 ht hf
    have hm:0<t.m:=by have:=rv_ne h0;omega
    have V:=sineV_iv (t:=oneD t) (p:=p) oneD_p (small_one ht f4) (by rw [rv_one ht];exact h0) (A:=t.e+(blen t.m:Int)-1) (by rw [amt_same oneD_p ht (rv_one ht)];exact amt_ge hm) (by omega) (by omega)
    rw [rv_one ht] at V
    rw [sinR,if_pos hf] at h ⊢
    unfold cutR at h ⊢
    split at h
    · rename_i r
      rw [if_pos r]
      exact ⟨trimV_p _ _,r,enc_trim V.1 (by omega) V.2.1⟩
    · exact absurd h (by decide)
theorem cos_enc{t:Dx}{p:Int}(ht:0≤t.m)(h:(cosR t p).2=0):faultD t p=0∧Ans (cosS t.rv) (cosR t p).1:=by
  have hf:faultD t p=0:=by
    unfold cosR at h;split at h
    · assumption
    · exact h
  exact ⟨hf,(cos_ok ht hf).2.1⟩
theorem snd_of{v:Vx}{w:Int}(h:(sndR v w).2=0):w=0∧(sndR v w).1=v:=by
  unfold sndR at h ⊢
  split at h
  · exact absurd h (by decide)
  · rename_i k
    rw [if_neg k]
    exact ⟨h,rfl⟩
theorem snd_sin{t:Dx}{p:Int}(ht:0≤t.m)(h:(sndR (sinR t p).1 (sinR t p).2).2=0):faultD t p=0∧Ans (sinS t.rv) (sndR (sinR t p).1 (sinR t p).2).1:=by
  obtain ⟨a,b⟩:=snd_of h
  rw [b];exact sin_enc ht a
theorem snd_cos{t:Dx}{p:Int}(ht:0≤t.m)(h:(sndR (cosR t p).1 (cosR t p).2).2=0):faultD t p=0∧Ans (cosS t.rv) (sndR (cosR t p).1 (cosR t p).2).1:=by
  obtain ⟨a,b⟩:=snd_of h
  rw [b];exact cos_enc ht a
theorem Ans.sm{s:Nat→Rat}{v:Vx}(h:Ans s v):v.Sm 65536:=right_sm h.right
theorem fits_neg{d:Dx}(h:OneF d)(f:d.fitsB=true):(negD d).fitsB=true:=by
  by_cases hz:d.m=0
  · rw [h.zero hz];decide +kernel
  · have t0:=tz_odd2 (h.odd hz) h.p
    have e1:(negD d).m=d.m:=by unfold negD;rw [mkD_m h.p,t0];simp
    have e2:(negD d).e=d.e:=by unfold negD mkD;rw [if_neg hz,t0];simp
    unfold Dx.fitsB at f ⊢
    rw [e1,e2];exact f
def OneV(v:Vx):Prop:=OneF v.lo∧OneF v.hi
theorem turn_ans{s s':Nat→Rat}{v:Vx}(h:Ans s v)(o:OneV v)(e:s'=fun n=>-s n):Ans s' (turnV v):=by
  have r1:(turnV v).lo.rv = -v.hi.rv:=rv_neg h.p.2
  have r2:(turnV v).hi.rv = -v.lo.rv:=rv_neg h.p.1
  refine ⟨⟨negD_p,negD_p⟩,?_,?_⟩
  · have f:=right_fits h.right
    exact right_of (fits_neg o.2 f.2.1) (fits_neg o.1 f.1) (by rw [r1,r2];have:=right_le h.right;grind)
  · rw [r1,r2,e];exact h.enc.neg
theorem sinS_bd{t:Rat}(t0:0<t)(t1:t≤1){a b:Rat}(h:Enc (sinS t) a b):a<t∧6*t-t*t*t<6*b:=by
  have x0:0<t*t:=Rat.mul_pos t0 t0
  have x1:t*t≤1:=sqr_le1 t1 (by grind)
  have y0:0<t*t*(t*t):=Rat.mul_pos x0 x0
  have y1:t*t*(t*t)≤t*t:=by have:=rmL x1 (rlL x0);grind
  have z1:t*t*(t*t)*(t*t)≤t*t*(t*t):=by have:=rmL x1 (rlL y0);grind
  have m1:tmf 2 (t*t) 1=t*t/6:=by simp [tmf];grind
  have m2:tmf 2 (t*t) 2=t*t*(t*t)/120:=by rw [tmf,m1];simp;grind
  have m3:tmf 2 (t*t) 3=t*t*(t*t)*(t*t)/5040:=by rw [tmf,m2];simp;grind
  have p02:parS 0 2 (t*t) 2=1:=by simp [parS,sumTo,tmf];grind
  have p12:parS 1 2 (t*t) 2=t*t/6:=by simp [parS,sumTo,m1];grind
  have p03:parS 0 2 (t*t) 3=1+t*t*(t*t)/120:=by simp [parS,sumTo,m1,m2];simp [tmf];grind
  have p13:parS 1 2 (t*t) 3=t*t/6:=by simp [parS,sumTo,m1,m2];grind
  have e1:=altS_enc (f:=2) (by omega) (rlL x0) x1 (K:=2) (r:=t*t*(t*t)/110) (by omega) (le_eq p02.symm) (le_eq p02) (le_eq p12.symm) (le_eq p12) (by rw [m2];grind)
  have e2:=altS_enc (f:=2) (by omega) (rlL x0) x1 (K:=3) (r:=t*t*(t*t)*(t*t)/4620) (by omega) (le_eq p03.symm) (le_eq p03) (le_eq p13.symm) (le_eq p13) (by rw [m3];grind)
  rw [sin_seq] at h
  have mul:∀ {a b:Rat},Enc (altS 2 (t*t)) a b→Enc (fun n=>t*altS 2 (t*t) n) (t*a) (t*b):=fun {a b} k=>by
    have l:=rmL k.self (rlL t0)
    refine Enc.mul (Enc.const t) k ?_
    rintro x y (rfl | rfl) (rfl | rfl)<;>exact ⟨by grind,by grind⟩
  have u:=h.meets (mul e1)
  have w:=(mul e2).meets h
  have q1:=Rat.mul_pos t0 (show 0<t*t/6-t*t*(t*t)/110 by grind)
  have q2:=Rat.mul_pos t0 (show 0<t*t*(t*t)/120-t*t*(t*t)*(t*t)/4620 by grind)
  exact ⟨by grind,by grind⟩
theorem cosS_bd{t:Rat}(t0:-1≤t)(t1:t≤1){a b:Rat}(h:Enc (cosS t) a b):a≤1∧1-t*t/2≤b:=by
  have x0:0≤t*t:=sqr_nonneg t
  have x1:t*t≤1:=sqr_le1 t1 t0
  have y0:0≤t*t*(t*t):=rmN x0 x0
  have y1:t*t*(t*t)≤t*t:=by have:=rmL x1 x0;grind
  have z1:t*t*(t*t)*(t*t)≤t*t*(t*t):=by have:=rmL x1 y0;grind
  have m1:tmf 1 (t*t) 1=t*t/2:=by simp [tmf];grind
  have m2:tmf 1 (t*t) 2=t*t*(t*t)/24:=by rw [tmf,m1];simp;grind
  have m3:tmf 1 (t*t) 3=t*t*(t*t)*(t*t)/720:=by rw [tmf,m2];simp;grind
  have p02:parS 0 1 (t*t) 2=1:=by simp [parS,sumTo,tmf];grind
  have p12:parS 1 1 (t*t) 2=t*t/2:=by simp [parS,sumTo,m1];grind
  have p03:parS 0 1 (t*t) 3=1+t*t*(t*t)/24:=by simp [parS,sumTo,m1,m2];simp [tmf];grind
  have p13:parS 1 1 (t*t) 3=t*t/2:=by simp [parS,sumTo,m1,m2];grind
  have e1:=altS_enc (f:=1) (by omega) x0 x1 (K:=2) (r:=t*t*(t*t)/22) (by omega) (le_eq p02.symm) (le_eq p02) (le_eq p12.symm) (le_eq p12) (by rw [m2];grind)
  have e2:=altS_enc (f:=1) (by omega) x0 x1 (K:=3) (r:=t*t*(t*t)*(t*t)/660) (by omega) (le_eq p03.symm) (le_eq p03) (le_eq p13.symm) (le_eq p13) (by rw [m3];grind)
  rw [cos_seq] at h
  have u:=h.meets e1
  have w:=e2.meets h
  exact ⟨by grind,by grind⟩
theorem quarL_spec{x:Dx}{p:Int}:∀ (n:Nat) (w:Int),8≤w→quarL x p n w=(0,zeroIv,6)∨∃ w',8≤w'∧w'≤8192∧okW x p w'=true∧quarL x p n w=((tryP x p w').1,(tryP x p w').2.1,0)
  | 0,_,_=>.inl rfl
  | n+1,w,hw=>by
    rw [quarL]
    split
    · rename_i h
      exact .inr ⟨min w 8192,by omega,by omega,h,rfl⟩
    · split
      · exact .inl rfl
      · exact quarL_spec n (2*min w 8192) (by omega)
theorem okW_parts{x:Dx}{p w:Int}(h:okW x p w=true):sureW (halfP w) x w=true∧rightV (restW (halfP w) x w)=true∧narrowV (restW (halfP w) x w) p=true∧tryP x p w=(by4I (nW (halfP w) x w),restW (halfP w) x w,true):=by
  unfold okW at h
  rw [Bool.and_eq_true] at h
  unfold tryP tryW at h ⊢
  by_cases hs:sureW (halfP w) x w=true
  · rw [if_pos hs] at h ⊢
    exact ⟨hs,h.2,h.1,by rw [show narrowV (restW (halfP w) x w) p=true from h.1]⟩
  · rw [if_neg hs] at h
    cases h.1
def condQ(x:Dx)(p:Int):Prop:=x.fitsB=true∧8≤p∧p≤3968
structure QuE (y:Dx) (p:Int) (Q:Int×Vx×Int) (w:Int):Prop where
  w0:8≤w
  w1:w≤8192
  sure:sureW (halfP w) y w=true
  right:rightV (restW (halfP w) y w)=true
  nar:narrowV (restW (halfP w) y w) p=true
  eq:Q=(by4I (nW (halfP w) y w),restW (halfP w) y w,0)
theorem quar_cases(x:Dx)(p:Int):(¬ condQ x p∧quarR x p=(0,zeroIv,2))∨(condQ x p∧(oneD x).m=0∧quarR x p=(0,zeroIv,0))∨(condQ x p∧(oneD x).m≠0∧1024≤topD (oneD x)∧quarR x p=(0,zeroIv,3)) ∨
    (condQ x p∧(oneD x).m≠0∧topD (oneD x)<1024∧quarR x p=(0,zeroIv,6))∨(condQ x p∧(oneD x).m≠0∧topD (oneD x)<1024∧∃ w,QuE (oneD x) p (quarR x p) w):=by
  by_cases c:condQ x p
  · have e:quarR x p=(if (oneD x).m=0 then (0,zeroIv,0) else if 1024≤topD (oneD x) then (0,zeroIv,3) else quarL (oneD x) p 9 (max (topD (oneD x)) 0+p+64)):=if_pos c
    by_cases z:(oneD x).m=0
    · exact .inr (.inl ⟨c,z,by rw [e,if_pos z]⟩)
    · by_cases t:1024≤topD (oneD x)
      · exact .inr (.inr (.inl ⟨c,z,t,by rw [e,if_neg z,if_pos t]⟩))
      · rw [if_neg z,if_neg t] at e
        have cp:=c.2.1
        rcases quarL_spec (x:=oneD x) (p:=p) 9 (max (topD (oneD x)) 0+p+64) (by omega) with h | ⟨w,w0,w1,ok,h⟩
        · exact .inr (.inr (.inr (.inl ⟨c,z,by omega,by rw [e,h]⟩)))
        · obtain ⟨o1,o2,o3,o4⟩:=okW_parts ok
          rw [o4] at h
          exact .inr (.inr (.inr (.inr ⟨c,z,by omega,w,⟨w0,w1,o1,o2,o3,by rw [e,h]⟩⟩)))
  · exact .inl ⟨c,if_neg c⟩
theorem halfs_common{w w':Int}(h0:8≤w)(h1:w≤8192)(k0:8≤w')(k1:w'≤8192):∃ c:Rat,InV (halfP w) c∧InV (halfP w') c∧3/2≤c∧c≤2 :=
  (halfP_hf h0 (by omega)).common (halfP_hf k0 (by omega))
theorem quar_near{x:Dx}(hx:0≤x.m){p:Int}(h:(quarR x p).2.2=0):0≤(quarR x p).1∧(quarR x p).1≤3∧(quarR x p).2.1.Sm 65536∧(quarR x p).2.1.P ∧
    (quarR x p).2.1.lo.rv≤(scaleV (constPi 64) (-2)).hi.rv∧-(scaleV (constPi 64) (-2)).hi.rv≤(quarR x p).2.1.hi.rv:=by
  have cp:=constPi_iv (p:=64) (by decide) (by decide)
  have hm:(scaleV (constPi 64) (-2)).hi.rv=(constPi 64).hi.rv*(1/4):=by rw [←p2_v.2.2.2];exact rv_shift cp.p.2
  have hh:(halfP 64).hi.rv=(constPi 64).hi.rv*(1/2):=by rw [←p2_v.2.2.1];exact rv_shift cp.p.2
  have l3:=cp.lo
  have le:=cp.le
  rcases quar_cases x p with ⟨_,q⟩|⟨c,z,q⟩|⟨c,z,t,q⟩|⟨c,z,t,q⟩|⟨c,z,t,w,q⟩
  · rw [q] at h;cases h
  · rw [q]
    have zv:zeroIv.lo.rv=0∧zeroIv.hi.rv=0:=⟨rv_zero rfl,rv_zero rfl⟩
    refine ⟨Int.le_refl _,by show (0:Int)≤3;omega,right_sm (v:=zeroIv) (by rw [right_K];decide +kernel),⟨Int.le_refl _,Int.le_refl _⟩,?_,?_⟩
    · show zeroIv.lo.rv≤_
      rw [zv.1,hm];grind
    · show _≤zeroIv.hi.rv
      rw [zv.2,hm];grind
  · rw [q] at h;cases h
  · rw [q] at h;cases h
  · have fy:OneF (oneD x):=oneD_f hx
    obtain ⟨cc,hc,hc',_,_⟩:=halfs_common q.w0 q.w1 (w':=64) (by decide) (by decide)
    have hf:=halfP_hf q.w0 (show w≤65000 by have:=q.w1;omega)
    have w1:1≤w:=by have:=q.w0;omega
    have n1:=sure_near hf fy.p w1 q.sure hc
    have r1:=rest_in hf fy.p w1 hc
    have s1:=right_sm q.right
    have c0:0<cc:=by have:=hf.lo;have:=hc.1;grind
    have ch:cc≤(halfP 64).hi.rv:=hc'.2
    rw [hh] at ch
    have xc:(oneD x).rv=(oneD x).rv*cc⁻¹*cc:=by rw [Rat.mul_assoc,Rat.inv_mul_cancel cc (by grind),Rat.mul_one]
    have a1:=rmR (show (oneD x).rv*cc⁻¹-(nI (halfP w) (oneD x) w:Rat)≤1/2 by have:=n1.2.1;grind) (rlL c0)
    have a2:=rmR (show -(1/2)≤(oneD x).rv*cc⁻¹-(nI (halfP w) (oneD x) w:Rat) by have:=n1.1;grind) (rlL c0)
    have e:((oneD x).rv*cc⁻¹-(nI (halfP w) (oneD x) w:Rat))*cc=(oneD x).rv-(nI (halfP w) (oneD x) w:Rat)*cc:=by
      conv=>rhs;rw [xc]
      grind
    rw [e] at a1 a2
    obtain ⟨r2,r3⟩:=r1
    rw [q.eq,hm]
    have b4:0≤nI (halfP w) (oneD x) w % 4∧nI (halfP w) (oneD x) w % 4≤3:=by omega
    refine ⟨b4.1,b4.2,s1,⟨cutD_p,cutD_p⟩,?_,?_⟩
    · show (restW (halfP w) (oneD x) w).lo.rv≤_
      grind
    · show _≤(restW (halfP w) (oneD x) w).hi.rv
      grind
noncomputable abbrev cpW (w:World) (neg:Bool) (s:Value) (e:Int):World:=((w.alloc (.cells #[.bool neg,s,.int .i64 e] 25)).alloc (.cells #[.bool false,.slice none 0 0,.int .i64 0] 25)).alloc (.cells #[] 48)
instance condQ_dec (x:Dx) (p:Int):Decidable (condQ x p):=inferInstanceAs (Decidable (_∧_∧_))
theorem alt_sum_ge{D:Nat→Rat}(h0:∀ k,0≤D k)(h:∀ k,2*D (k+1)≤D k):∀ n,D n≤sumTo (fun k=>alt k*D k) (n+1)
  | 0=>by
    show D 0≤0+alt 0*D 0
    rw [show alt 0=1 from rfl];grind
  | n+1=>by
    have a:=alt_sum_ge h0 h n
    have c:=h0 n
    have b:=h n
    show D (n+1)≤sumTo (fun k=>alt k*D k) (n+1)+alt (n+1)*D (n+1)
    rcases alt_one (n+1) with e | e<;>rw [e]<;>grind
theorem alt_sum_nonneg{D:Nat→Rat}(h0:∀ k,0≤D k)(h:∀ k,2*D (k+1)≤D k):∀ n,0≤sumTo (fun k=>alt k*D k) n
  | 0=>Rat.le_refl
  | n+1=>Rat.le_trans (h0 n) (alt_sum_ge h0 h n)
theorem c_nonneg{c z:Rat}(hc:6≤c)(h:0≤c*z):0≤z:=Rat.not_lt.1 fun k=>by
  have:=Rat.mul_pos (show 0<c by grind) (show 0 < -z by grind)
  grind
structure Pair (c A B:Nat→Rat) (x y:Rat):Prop where
  c6:∀ k,6≤c k
  a1:∀ k,c k*A (k+1)=x*A k
  b1:∀ k,c k*B (k+1)=y*B k
  y0:0≤y
  yx:y≤x
  x1:x≤1
  b0:0≤B 0
  d0:B 0≤A 0
  i:B 0*(x-y)≤2*(A 0-B 0)
theorem Pair.ind{c A B:Nat→Rat}{x y:Rat}(h:Pair c A B x y):∀ k,0≤B k∧B k≤A k∧B k*(x-y)≤2*(A k-B k)
  | 0=>⟨h.b0,h.d0,h.i⟩
  | k+1=>by
    obtain ⟨p1,p2,p3⟩:=Pair.ind h k
    have ca:=h.a1 k
    have cb:=h.b1 k
    have c6:=h.c6 k
    have yx:=h.yx
    have y0:=h.y0
    have x1:=h.x1
    have n1:=rmN y0 p1
    have n2:=rmN (show 0≤x by grind) (show 0≤A k-B k by grind)
    have n3:=rmN p1 (show 0≤x-y by grind)
    have n4:=rmR (show y≤1 by grind) n3
    refine ⟨c_nonneg c6 (by rw [cb];exact n1),?_,?_⟩
    · have:=c_nonneg (z:=A (k+1)-B (k+1)) c6 (by grind)
      grind
    · have e:c k*(2*(A (k+1)-B (k+1))-B (k+1)*(x-y))=2*(x*A k-y*B k)-y*B k*(x-y):=by rw [←ca,←cb];grind
      have:=c_nonneg (z:=2*(A (k+1)-B (k+1))-B (k+1)*(x-y)) c6 (by rw [e];grind)
      grind
theorem Pair.half{c A B:Nat→Rat}{x y:Rat}(h:Pair c A B x y)(k:Nat):2*(A (k+1)-B (k+1))≤A k-B k:=by
  obtain ⟨p1,p2,p3⟩:=h.ind k
  obtain ⟨q1,q2,q3⟩:=h.ind (k+1)
  have m:=rmR (h.c6 k) (show 0≤A (k+1)-B (k+1) by grind)
  have n:=rmR h.x1 (show 0≤A k-B k by grind)
  have ca:=h.a1 k
  have cb:=h.b1 k
  grind
theorem Pair.le{c A B:Nat→Rat}{x y:Rat}(h:Pair c A B x y)(n:Nat):sumTo (fun k=>alt k*B k) n≤sumTo (fun k=>alt k*A k) n:=by
  have p:=alt_sum_nonneg (D:=fun k=>A k-B k) (fun k=>by have:=(h.ind k).2.1;grind) (fun k=>h.half k) n
  have e:sumTo (fun k=>alt k*(A k-B k)) n=sumTo (fun k=>alt k*A k) n + -1*sumTo (fun k=>alt k*B k) n:=by
    rw [←sumTo_mul,←sumTo_add];exact sumTo_congr fun i _=>by grind
  rw [e] at p
  grind
theorem tmf_mul{f:Nat}(hf:1≤f)(x:Rat)(k:Nat):((f+2*k:Nat):Rat)*((f+2*k+1:Nat):Rat)*tmf f x (k+1)=x*tmf f x k:=by
  have p1:(0:Rat)<((f+2*k:Nat):Rat):=by rw [←Rat.intCast_natCast];exact (cast_lt (a:=0)).2 (by omega)
  have p2:=nat_pos (f+2*k)
  have i1:=Rat.inv_mul_cancel ((f+2*k:Nat):Rat) (by grind)
  have i2:=Rat.inv_mul_cancel ((f+2*k+1:Nat):Rat) (by grind)
  rw [tmf]
  generalize ((f+2*k:Nat):Rat)=u at *
  generalize ((f+2*k+1:Nat):Rat)=v at *
  have e:u*v*(tmf f x k*x*u⁻¹*v⁻¹)=tmf f x k*x*(u⁻¹*u)*(v⁻¹*v):=by grind
  rw [e,i1,i2]
  grind
theorem coef6{a b:Nat}(ha:2≤a)(hb:3≤b):(6:Rat)≤(a:Rat)*(b:Rat):=by
  have a1:(2:Rat)≤(a:Rat):=by rw [←Rat.intCast_natCast];exact (cast_le (a:=2)).2 (by omega)
  have a2:(3:Rat)≤(b:Rat):=by rw [←Rat.intCast_natCast];exact (cast_le (a:=3)).2 (by omega)
  have b1:=rmR a1 (show 0≤(b:Rat) by grind)
  grind
theorem sinS_mono0{s t:Rat}(h0:0≤s)(h:s≤t)(h1:t≤1)(n:Nat):sinS s n≤sinS t n:=by
  have y:s*s≤t*t:=by
    have a:=rmL h h0
    have b:=rmR h (show 0≤t by grind)
    grind
  have x1:t*t≤1:=by have:=rmL h1 (show 0≤t by grind);grind
  have p:Pair (fun k=>((2+2*k:Nat):Rat)*((2+2*k+1:Nat):Rat)) (fun k=>t*tmf 2 (t*t) k) (fun k=>s*tmf 2 (s*s) k) (t*t) (s*s) :=
    { c6:=fun k=>coef6 (by omega) (by omega),a1:=fun k=>by have:=tmf_mul (f:=2) (by omega) (t*t) k;grind,b1:=fun k=>by have:=tmf_mul (f:=2) (by omega) (s*s) k;grind,
      y0:=rmN h0 h0,yx:=y,x1:=x1,b0:=by show 0≤s*1;grind,d0:=by show s*1≤t*1;grind,
      i:=by
        show s*1*(t*t-s*s)≤2*(t*1-s*1)
        have a:=rmR (show t+s≤2 by grind) (show 0≤t-s by grind)
        have b:=rmR (show s≤1 by grind) (show 0≤t*t-s*s by grind)
        grind }
  have e:∀ u:Rat,sinS u n=sumTo (fun k=>alt k*(u*tmf 2 (u*u) k)) n:=fun u=>sumTo_congr fun i _=>by rw [sinT,dpw_odd]
  rw [e,e]
  exact p.le n
theorem sinS_zero(n:Nat):sinS 0 n=0:=by rw [sinS_alt,Rat.zero_mul]
theorem sinS_mono{s t:Rat}(h0:-1≤s)(h:s≤t)(h1:t≤1)(n:Nat):sinS s n≤sinS t n:=by
  rcases (show 0≤s∨s≤0 by grind) with a | a
  · exact sinS_mono0 a h h1 n
  · have e:sinS s n = -sinS (-s) n:=by rw [←sinS_neg,Rat.neg_neg]
    rcases (show 0≤t∨t≤0 by grind) with b | b
    · have c:=sinS_mono0 (Rat.le_refl (a:=0)) b h1 n
      have d:=sinS_mono0 (Rat.le_refl (a:=0)) (show 0≤-s by grind) (by grind) n
      rw [sinS_zero] at c d
      grind
    · have e':sinS t n = -sinS (-t) n:=by rw [←sinS_neg,Rat.neg_neg]
      have d:=sinS_mono0 (show 0≤-t by grind) (show -t≤-s by grind) (by grind) n
      grind
theorem cosS_anti{s t:Rat}(h:s*s≤t*t)(h1:t*t≤1)(n:Nat):cosS t n≤cosS s n:=by
  have s0:0≤s*s:=by
    rcases (show 0≤s∨s≤0 by grind) with a | a
    · exact rmN a a
    · have:=rmN (show 0≤-s by grind) (show 0≤-s by grind);grind
  have m0:∀ u:Rat,2*tmf 1 u 1=u:=fun u=>by
    have:=tmf_mul (f:=1) (by omega) u 0
    have e1:((1+2*0:Nat):Rat)*((1+2*0+1:Nat):Rat)=2:=by decide +kernel
    rw [e1] at this
    rw [this];show u*1=u;grind
  have p:Pair (fun k=>((1+2*(k+1):Nat):Rat)*((1+2*(k+1)+1:Nat):Rat)) (fun k=>tmf 1 (t*t) (k+1)) (fun k=>tmf 1 (s*s) (k+1)) (t*t) (s*s) :=
    { c6:=fun k=>coef6 (by omega) (by omega),a1:=fun k=>tmf_mul (f:=1) (by omega) (t*t) (k+1),b1:=fun k=>tmf_mul (f:=1) (by omega) (s*s) (k+1),
      y0:=s0,yx:=h,x1:=h1,b0:=by have:=m0 (s*s);show 0≤tmf 1 (s*s) 1;grind,d0:=by have:=m0 (s*s);have:=m0 (t*t);show tmf 1 (s*s) 1≤tmf 1 (t*t) 1;grind,
      i:=by
        have a:=m0 (s*s)
        have b:=m0 (t*t)
        show tmf 1 (s*s) 1*(t*t-s*s)≤2*(tmf 1 (t*t) 1-tmf 1 (s*s) 1)
        have c:=rmR (show tmf 1 (s*s) 1≤1 by grind) (show 0≤t*t-s*s by grind)
        grind }
  have e:∀ u:Rat,cosS u n=sumTo (fun k=>alt k*tmf 1 (u*u) k) n:=fun u=>cosS_alt u n
  cases n with
  | zero=>exact Rat.le_refl
  | succ n =>
    rw [e,e,sumTo_head,sumTo_head]
    have q:=p.le n
    have g:∀ u:Rat,sumTo (fun i=>alt (i+1)*tmf 1 u (i+1)) n = -1*sumTo (fun i=>alt i*tmf 1 u (i+1)) n:=fun u=>by
      rw [←sumTo_mul];exact sumTo_congr fun i _=>by rw [alt_succ];grind
    rw [g,g]
    show alt 0*1+_≤alt 0*1+_
    grind
theorem Enc.le{s t:Nat→Rat}{a b c d:Rat}(h:Enc s a b)(k:Enc t c d)(hs:∀ n,s n≤t n):a≤d:=by
  refine Rat.not_lt.1 fun g=>?_
  obtain ⟨N,hN⟩:=h ((a-d)/4) (by grind)
  obtain ⟨M,hM⟩:=k ((a-d)/4) (by grind)
  have x:=(hN (N+M) (by omega)).1
  have y:=(hM (N+M) (by omega)).2
  have z:=hs (N+M)
  grind
def Rel(ε x y:Rat):Prop:=(x-y≤ε*y∧y-x≤ε*y)∨(x-y≤-(ε*y)∧y-x≤-(ε*y))
theorem min_close{a1 b1 a2 b2 c1 d1 c2 d2 m y δ:Rat}(h1:Nar δ a1 b1)(h2:Nar δ a2 b2)(k1:Nar δ c1 d1)(k2:Nar δ c2 d2)(x1:a1≤d1)(x2:c1≤b1)(x3:a2≤d2)(x4:c2≤b2)
    (m1:m≤a1) (m2:m≤a2) (mm:m=a1∨m=b1∨m=a2∨m=b2) (y1:y≤c1) (y2:y≤c2) (yy:y=c1∨y=c2):m≤y+δ*y∧y≤m+δ*m:=by
  obtain ⟨a0,ab,e1⟩:=h1
  obtain ⟨a0',ab',e1'⟩:=h2
  obtain ⟨c0,cd,f1⟩:=k1
  obtain ⟨c0',cd',f1'⟩:=k2
  have M:m=a1∨m=a2:=by grind
  refine ⟨?_,?_⟩
  · rcases yy with rfl | rfl<;>grind
  · rcases M with rfl | rfl<;>grind
theorem max_close{a1 b1 a2 b2 c1 d1 c2 d2 m y δ:Rat}(d0:0≤δ)(h1:Nar δ a1 b1)(h2:Nar δ a2 b2)(k1:Nar δ c1 d1)(k2:Nar δ c2 d2)(x1:a1≤d1)(x2:c1≤b1)(x3:a2≤d2)(x4:c2≤b2)
    (m1:b1≤m) (m2:b2≤m) (mm:m=a1∨m=b1∨m=a2∨m=b2) (y1:d1≤y) (y2:d2≤y) (yy:y=d1∨y=d2):m≤y+δ*y∧y≤m+δ*m:=by
  obtain ⟨a0,ab,e1⟩:=h1
  obtain ⟨a0',ab',e1'⟩:=h2
  obtain ⟨c0,cd,f1⟩:=k1
  obtain ⟨c0',cd',f1'⟩:=k2
  have M:m=b1∨m=b2:=by grind
  have q1:=rmL (show a1≤y by grind) d0
  have q2:=rmL (show a2≤y by grind) d0
  have q3:=rmL (show c1≤m by grind) d0
  have q4:=rmL (show c2≤m by grind) d0
  refine ⟨?_,?_⟩
  · rcases M with e | e<;>grind
  · rcases yy with e | e<;>grind
theorem dn_close{q:Int}{m c y δ ε:Rat}(h:Dn q m c)(hq:1≤q)(m0:0<m)(d0:0≤δ)(d1:δ≤1)(k1:m≤y+δ*y)(k2:y≤m+δ*m)(he:2*(δ+eps q)≤ε):Rel ε c y:=by
  obtain ⟨r1,r2⟩:=h.rel hq m0
  have r3:=h.2.1
  have e0:=eps_pos q
  have y0:0<y:=Rat.not_le.1 fun g=>by
    have:=rmL g d0
    grind
  have t1:=rmR d1 (rlL y0)
  have t2:=rmL (show m≤2*y by grind) (show 0≤δ+eps q by grind)
  have t3:=rmR he (rlL y0)
  have t4:=rmN (rlL e0) (rlL y0)
  have t5:=rmN d0 (rlL y0)
  exact .inl ⟨by grind,by grind⟩
theorem up_close{q:Int}{m c y δ ε:Rat}(h:Up q m c)(hq:1≤q)(m0:0<m)(d0:0≤δ)(d1:δ≤1)(k1:m≤y+δ*y)(k2:y≤m+δ*m)(he:2*(δ+eps q)≤ε):Rel ε c y:=by
  have r1:=h.rel hq m0
  have r3:=h.2.1
  have e0:=eps_pos q
  have y0:0<y:=Rat.not_le.1 fun g=>by
    have:=rmL g d0
    grind
  have t1:=rmR d1 (rlL y0)
  have t2:=rmL (show m≤2*y by grind) (show 0≤δ by grind)
  have t6:=rmL (show m≤2*y by grind) (rlL e0)
  have t3:=rmR he (rlL y0)
  have t4:=rmN (rlL e0) (rlL y0)
  have t5:=rmN d0 (rlL y0)
  exact .inl ⟨by grind,by grind⟩
theorem sgn_le0{d:Dx}(h:0≤d.m):d.sgn≤0↔d.rv≤0:=by
  rcases sgn_rv h with ⟨a,b⟩|⟨a,b⟩|⟨a,b⟩
  · rw [a,b];simp
  · exact ⟨fun k=>by omega,fun k=>by exfalso;grind⟩
  · exact ⟨fun _=>rlL b,fun _=>by omega⟩
theorem sgn_ge0{d:Dx}(h:0≤d.m):0≤d.sgn↔0≤d.rv:=by
  rcases sgn_rv h with ⟨a,b⟩|⟨a,b⟩|⟨a,b⟩
  · rw [a,b];simp
  · exact ⟨fun _=>rlL b,fun _=>by omega⟩
  · exact ⟨fun k=>by omega,fun k=>by exfalso;grind⟩
theorem zeroV_rv{v:Vx}(hv:v.P):zeroV v=true↔v.lo.rv≤0∧0≤v.hi.rv:=by
  unfold zeroV
  rw [Bool.and_eq_true,decide_eq_true_eq,decide_eq_true_eq,sgn_le0 hv.1,sgn_ge0 hv.2]
theorem hull_lo(a b:Vx):(hullV a b).lo.rv≤a.lo.rv∧(hullV a b).lo.rv≤b.lo.rv∧((hullV a b).lo=a.lo∨(hullV a b).lo=b.lo):=by
  by_cases h:cmpD b.lo a.lo<0
  · have e:(hullV a b).lo=b.lo:=if_pos h
    have:=cmpD_lt0.1 h
    rw [e];exact ⟨by grind,Rat.le_refl,.inr rfl⟩
  · have e:(hullV a b).lo=a.lo:=if_neg h
    have:=fun k=>h (cmpD_lt0.2 k)
    rw [e];exact ⟨Rat.le_refl,by grind,.inl rfl⟩
theorem hull_hi(a b:Vx):a.hi.rv≤(hullV a b).hi.rv∧b.hi.rv≤(hullV a b).hi.rv∧((hullV a b).hi=a.hi∨(hullV a b).hi=b.hi):=by
  by_cases h:0<cmpD b.hi a.hi
  · have e:(hullV a b).hi=b.hi:=if_pos h
    have:=cmpD_gt0.1 h
    rw [e];exact ⟨by grind,Rat.le_refl,.inr rfl⟩
  · have e:(hullV a b).hi=a.hi:=if_neg h
    have:=fun k=>h (cmpD_gt0.2 k)
    rw [e];exact ⟨Rat.le_refl,by grind,.inl rfl⟩
structure CosB (v:Vx) (p:Int) (X Y:Vx):Prop where
  xp:X.P
  yp:Y.P
  lo:p2 (-2)≤X.lo.rv∧X.lo.rv≤p2 2
  hi:p2 (-2)≤X.hi.rv∧X.hi.rv≤p2 2
  le:X.lo.rv≤X.hi.rv
  c1:X.lo.rv≤Y.lo.rv+p2 (-24-p)*Y.lo.rv∧Y.lo.rv≤X.lo.rv+p2 (-24-p)*X.lo.rv
  c2:X.hi.rv≤Y.hi.rv+p2 (-24-p)*Y.hi.rv∧Y.hi.rv≤X.hi.rv+p2 (-24-p)*X.hi.rv
  has:∀ x a b,v.lo.rv≤x→x≤v.hi.rv→Enc (cosS x) a b→X.lo.rv≤b∧a≤X.hi.rv
theorem sqr_mono{x y:Rat}(h0:0≤x)(h:x≤y):x*x≤y*y:=by
  have a:=rmL h h0
  have b:=rmR h (show 0≤y by grind)
  grind
theorem sqr_mono'{x y:Rat}(h0:y≤0)(h:x≤y):y*y≤x*x:=by
  have:=sqr_mono (x:=-y) (y:=-x) (by grind) (by grind)
  grind
theorem cosines_ok{v:Vx}{p:Int}(hv:v.P)(f1:small1 v.lo)(f2:small1 v.hi)(hl:v.lo.rv≤v.hi.rv)(p0:0≤p)(p1:p≤8000):CosB v p (cosinesV (onesV v) p) (cosinesH v p):=by
  have A:=cosineV_iv (t:=oneD v.lo) (p:=p) oneD_p (small_one hv.1 f1) p0 (by omega)
  have B:=cosineV_iv (t:=oneD v.hi) (p:=p) oneD_p (small_one hv.2 f2) p0 (by omega)
  have C:=cosineH_iv (p:=p) hv.1 f1 p0 (by omega)
  have D:=cosineH_iv (p:=p) hv.2 f2 p0 (by omega)
  rw [rv_one hv.1] at A
  rw [rv_one hv.2] at B
  have sl:=span4_lo (cosineV (oneD v.lo) p).lo (cosineV (oneD v.lo) p).hi (cosineV (oneD v.hi) p).lo (cosineV (oneD v.hi) p).hi
  have sh:=span4_hi (cosineV (oneD v.lo) p).lo (cosineV (oneD v.lo) p).hi (cosineV (oneD v.hi) p).lo (cosineV (oneD v.hi) p).hi
  have sp:=span4_p A.1.1 A.1.2 B.1.1 B.1.2
  have hL:=hull_lo (cosineH v.lo p) (cosineH v.hi p)
  have hH:=hull_hi (cosineH v.lo p) (cosineH v.hi p)
  have z:zeroV (onesV v)=zeroV v:=by
    unfold zeroV onesV
    show (decide ((oneD v.lo).sgn≤0) && decide (0≤(oneD v.hi).sgn))=_
    rw [one_sgn _ hv.1,one_sgn _ hv.2]
  have lo1:(cosinesV (onesV v) p).lo=(spanL (cosineV (oneD v.lo) p).lo [(cosineV (oneD v.lo) p).hi,(cosineV (oneD v.hi) p).lo,(cosineV (oneD v.hi) p).hi]).lo:=by
    unfold cosinesV;split<;>rfl
  have lo2:(cosinesH v p).lo=(hullV (cosineH v.lo p) (cosineH v.hi p)).lo:=by
    unfold cosinesH;split<;>rfl
  have hi1:zeroV v=false→(cosinesV (onesV v) p).hi=(spanL (cosineV (oneD v.lo) p).lo [(cosineV (oneD v.lo) p).hi,(cosineV (oneD v.hi) p).lo,(cosineV (oneD v.hi) p).hi]).hi:=fun h=>by
    unfold cosinesV;rw [z,h];rfl
  have hi2:zeroV v=false→(cosinesH v p).hi=(hullV (cosineH v.lo p) (cosineH v.hi p)).hi:=fun h=>by
    unfold cosinesH;rw [h];rfl
  have hz1:zeroV v=true→(cosinesV (onesV v) p).hi=mkS 1 0:=fun h=>by
    unfold cosinesV;rw [z,h];rfl
  have hz2:zeroV v=true→(cosinesH v p).hi=mkS 1 0:=fun h=>by
    unfold cosinesH;rw [h];rfl
  have r:(mkS 1 0).rv=1:=rv_int 1
  have dd:p2 (-40-p)≤p2 (-24-p):=p2_le (by omega)
  have d0:=rlL (p2_pos (-24-p))
  have nA:=A.2.2.nar.mono dd
  have nB:=B.2.2.nar.mono dd
  have nC:=C.2.2.nar
  have nD:=D.2.2.nar
  have x1:=A.2.1.meets C.2.1
  have x2:=C.2.1.meets A.2.1
  have x3:=B.2.1.meets D.2.1
  have x4:=D.2.1.meets B.2.1
  have lA:=A.2.2.lo
  have hA:=A.2.2.hi
  have lB:=B.2.2.lo
  have hB:=B.2.2.hi
  have mm:=sl.2.2.2.2
  have MM:=sh.2.2.2.2
  have one1:p2 (-2)≤1∧(1:Rat)≤p2 2:=by
    have a:=p2_le (show (-2:Int)≤0 by omega)
    have b:=p2_le (show (0:Int)≤2 by omega)
    rw [p2_zero] at a b
    exact ⟨a,b⟩
  have bdA:=(cosS_bd f1.2 f1.1 A.2.1).1
  have min:=min_close (m:=(spanL (cosineV (oneD v.lo) p).lo [(cosineV (oneD v.lo) p).hi,(cosineV (oneD v.hi) p).lo,(cosineV (oneD v.hi) p).hi]).lo.rv) (y:=(hullV (cosineH v.lo p) (cosineH v.hi p)).lo.rv) nA nB nC nD x1 x2 x3 x4 sl.1 sl.2.2.1 (by rcases mm with e | e | e | e<;>rw [e]<;>simp) hL.1 hL.2.1 (by rcases hL.2.2 with e | e<;>rw [e]<;>simp)
  have max:=max_close (m:=(spanL (cosineV (oneD v.lo) p).lo [(cosineV (oneD v.lo) p).hi,(cosineV (oneD v.hi) p).lo,(cosineV (oneD v.hi) p).hi]).hi.rv) (y:=(hullV (cosineH v.lo p) (cosineH v.hi p)).hi.rv) d0 nA nB nC nD x1 x2 x3 x4 sh.2.1 sh.2.2.2.1 (by rcases MM with e | e | e | e<;>rw [e]<;>simp) hH.1 hH.2.1 (by rcases hH.2.2 with e | e<;>rw [e]<;>simp)
  have X0:=nA.2.1
  have X1:=nB.2.1
  have Lo:p2 (-2)≤(cosinesV (onesV v) p).lo.rv∧(cosinesV (onesV v) p).lo.rv≤p2 2:=by
    rw [lo1]
    refine ⟨?_,by grind⟩
    rcases mm with e | e | e | e<;>rw [e]<;>grind
  have q1:small1 v.lo:=f1
  refine ⟨⟨by rw [lo1];exact sp.1,?_⟩,⟨?_,?_⟩,Lo,?_,?_,by rw [lo1,lo2];exact min,?_,?_⟩
  · cases h:zeroV v with
    | true=>rw [hz1 h];exact mkS_p
    | false=>rw [hi1 h];exact sp.2
  · rw [lo2]
    rcases hL.2.2 with e | e<;>rw [e]
    · exact C.1.p.1
    · exact D.1.p.1
  · cases h:zeroV v with
    | true=>rw [hz2 h];exact mkS_p
    | false =>
      rw [hi2 h]
      rcases hH.2.2 with e | e<;>rw [e]
      · exact C.1.p.2
      · exact D.1.p.2
  · cases h:zeroV v with
    | true=>rw [hz1 h,r];exact one1
    | false =>
      rw [hi1 h]
      refine ⟨by grind,?_⟩
      rcases MM with e | e | e | e<;>rw [e]<;>grind
  · cases h:zeroV v with
    | true=>rw [hz1 h,r,lo1];grind
    | false=>rw [hi1 h,lo1];grind
  · cases h:zeroV v with
    | true=>rw [hz1 h,hz2 h,r];exact ⟨by grind,by grind⟩
    | false=>rw [hi1 h,hi2 h];exact max
  · intro x a b h1 h2 E
    have b1:x*x≤1:=sqr_le1 (by have:=f2.1;grind) (by have:=f1.2;grind)
    have c1:v.lo.rv*v.lo.rv≤1:=sqr_le1 f1.1 f1.2
    have c2:v.hi.rv*v.hi.rv≤1:=sqr_le1 f2.1 f2.2
    refine ⟨?_,?_⟩
    · rw [lo1]
      rcases (show 0≤x∨x≤0 by grind) with g | g
      · have:=B.2.1.le E (fun n=>cosS_anti (sqr_mono g h2) c2 n)
        grind
      · have:=A.2.1.le E (fun n=>cosS_anti (sqr_mono' g h1) c1 n)
        grind
    · cases h:zeroV v with
      | true =>
        rw [hz1 h,r]
        exact (cosS_bd (t:=x) (by have:=f1.2;grind) (by have:=f2.1;grind) E).1
      | false =>
        rw [hi1 h]
        rcases (show 0<v.lo.rv∨v.hi.rv<0 by
          have:=fun k=>(by rw [(zeroV_rv hv).2 k] at h;exact absurd h (by simp):False)
          grind) with g | g
        · have:=E.le A.2.1 (fun n=>cosS_anti (sqr_mono (rlL g) h1) b1 n)
          grind
        · have:=E.le B.2.1 (fun n=>cosS_anti (sqr_mono' (rlL g) h2) b1 n)
          grind
theorem fits_end{d:Dx}{q:Int}{up:Bool}{x:Rat}(hd:0≤d.m)(h:Rp q (cutD d q up).rv)(q0:1≤q)(q1:q≤8000)(x0:p2 (-3)≤x)(x1:x≤p2 3)(e:(cutD d q up).rv=x):(cutD d q up).fitsB=true:=by
  have p:=p2_pos (-3)
  have a:=(rv_amt (d:=cutD d q up) cutD_p).1 (by rw [e];grind)
  rw [e] at a
  exact fits_rp (cutD_f hd) h (by omega) (fun _=>by rw [←a];exact x0) (by rw [←a];exact x1) (by omega) (by omega)
theorem cos_cut{v:Vx}{p:Int}{X Y:Vx}(K:CosB v p X Y)(p0:0≤p)(p1:p≤7000) :
    rightV (trimV X (p+8))=true∧Rel (p2 (2-p)) (trimV X (p+8)).lo.rv Y.lo.rv∧Rel (p2 (2-p)) (trimV X (p+8)).hi.rv Y.hi.rv∧(trimV X (p+8)).lo.rv≤X.lo.rv∧X.hi.rv≤(trimV X (p+8)).hi.rv:=by
  obtain ⟨b1,b2⟩:=trim_best K.xp (p:=p+8) (by omega)
  have q2:=p2_pos (-2)
  have r1:=b1.rel (by omega) (show 0<X.lo.rv by have:=K.lo.1;grind)
  have r2:=b2.rel (by omega) (show 0<X.hi.rv by have:=K.hi.1;grind)
  have e:eps (p+8)=p2 (-7-p):=by unfold eps;congr 1;omega
  have e1:eps (p+8)≤p2 (-1):=by rw [e];exact p2_le (by omega)
  have hf:=p2_half (-1)
  rw [show (-1+1:Int)=0 by omega,p2_zero] at hf
  have t1:=rmR e1 (show 0≤X.lo.rv by have:=K.lo.1;grind)
  have t2:=rmR e1 (show 0≤X.hi.rv by have:=K.hi.1;grind)
  have h3:=p2_half (-3)
  rw [show (-3+1:Int) = -2 by omega] at h3
  have h2:=p2_half 2
  rw [show (2+1:Int)=3 by omega] at h2
  have g23:p2 2≤p2 3:=p2_le (by omega)
  have l1:=K.lo.1
  have l2:=K.lo.2
  have l3:=K.hi.1
  have l4:=K.hi.2
  have hl:=b1.2.1
  have hh:=b2.2.1
  have x2:p2 (-1)*X.lo.rv+p2 (-1)*X.lo.rv=X.lo.rv:=by grind
  have x3:p2 (-1)*X.hi.rv+p2 (-1)*X.hi.rv=X.hi.rv:=by grind
  have f1:(trimV X (p+8)).lo.fitsB=true:=fits_end K.xp.1 b1.1 (by omega) (by omega) (x:=(trimV X (p+8)).lo.rv) (by grind) (by grind) rfl
  have f2:(trimV X (p+8)).hi.fitsB=true:=fits_end K.xp.2 b2.1 (by omega) (by omega) (x:=(trimV X (p+8)).hi.rv) (by grind) (by grind) rfl
  have d0:=rlL (p2_pos (-24-p))
  have d1:p2 (-24-p)≤1:=by have:=p2_le (show -24-p≤0 by omega);rwa [p2_zero] at this
  have he:2*(p2 (-24-p)+eps (p+8))≤p2 (2-p):=by
    have a:=p2_le (show -24-p≤-7-p by omega)
    have b:=p2_dbl (-7-p)
    have c:=p2_half (-7-p+1)
    have d:=p2_le (show -7-p+1+1≤2-p by omega)
    rw [e];grind
  exact ⟨right_of f1 f2 (by have:=K.le;grind),dn_close b1 (by omega) (by grind) d0 d1 K.c1.1 K.c1.2 he,up_close b2 (by omega) (by grind) d0 d1 K.c2.1 K.c2.2 he,hl,hh⟩
theorem altS2_anti{x y:Rat}(x0:0≤x)(h:x≤y)(h1:y≤1)(n:Nat):altS 2 y n≤altS 2 x n:=by
  have m0:∀ u:Rat,6*tmf 2 u 1=u:=fun u=>by
    have:=tmf_mul (f:=2) (by omega) u 0
    have e1:((2+2*0:Nat):Rat)*((2+2*0+1:Nat):Rat)=6:=by decide +kernel
    rw [e1] at this
    rw [this];show u*1=u;grind
  have p:Pair (fun k=>((2+2*(k+1):Nat):Rat)*((2+2*(k+1)+1:Nat):Rat)) (fun k=>tmf 2 y (k+1)) (fun k=>tmf 2 x (k+1)) y x :=
    { c6:=fun k=>coef6 (by omega) (by omega),a1:=fun k=>tmf_mul (f:=2) (by omega) y (k+1),b1:=fun k=>tmf_mul (f:=2) (by omega) x (k+1),
      y0:=x0,yx:=h,x1:=h1,b0:=by have:=m0 x;show 0≤tmf 2 x 1;grind,d0:=by have:=m0 x;have:=m0 y;show tmf 2 x 1≤tmf 2 y 1;grind,
      i:=by
        have a:=m0 x
        have b:=m0 y
        show tmf 2 x 1*(y-x)≤2*(tmf 2 y 1-tmf 2 x 1)
        have c:=rmR (show tmf 2 x 1≤1/6 by grind) (show 0≤y-x by grind)
        grind }
  have e:∀ u:Rat,altS 2 u n=sumTo (fun k=>alt k*tmf 2 u k) n:=fun u=>rfl
  cases n with
  | zero=>exact Rat.le_refl
  | succ n =>
    rw [e,e,sumTo_head,sumTo_head]
    have q:=p.le n
    have g:∀ u:Rat,sumTo (fun i=>alt (i+1)*tmf 2 u (i+1)) n = -1*sumTo (fun i=>alt i*tmf 2 u (i+1)) n:=fun u=>by
      rw [←sumTo_mul];exact sumTo_congr fun i _=>by rw [alt_succ];grind
    rw [g,g]
    show alt 0*1+_≤alt 0*1+_
    grind
theorem sin_ratio{a b:Rat}(a0:0≤a)(h:a≤b)(h1:b≤1)(n:Nat):a*sinS b n≤b*sinS a n:=by
  have b0:0≤b:=by grind
  have b1:b*b≤1:=by have:=rmL h1 b0;grind
  have m:=altS2_anti (x:=a*a) (y:=b*b) (rmN a0 a0) (sqr_mono a0 h) b1 n
  rw [sinS_alt,sinS_alt]
  have:=rmL m (rmN a0 b0)
  grind
theorem cos_diff{s t:Rat}(h:s*s≤t*t)(h1:t*t≤1)(n:Nat):cosS s n-cosS t n≤(t*t-s*s)/2:=by
  have s0:0≤s*s:=by
    rcases (show 0≤s∨s≤0 by grind) with a | a
    · exact rmN a a
    · have:=rmN (show 0≤-s by grind) (show 0≤-s by grind);grind
  have m0:∀ u:Rat,2*tmf 1 u 1=u:=fun u=>by
    have:=tmf_mul (f:=1) (by omega) u 0
    have e1:((1+2*0:Nat):Rat)*((1+2*0+1:Nat):Rat)=2:=by decide +kernel
    rw [e1] at this
    rw [this];show u*1=u;grind
  have p:Pair (fun k=>((1+2*(k+1):Nat):Rat)*((1+2*(k+1)+1:Nat):Rat)) (fun k=>tmf 1 (t*t) (k+1)) (fun k=>tmf 1 (s*s) (k+1)) (t*t) (s*s) :=
    { c6:=fun k=>coef6 (by omega) (by omega),a1:=fun k=>tmf_mul (f:=1) (by omega) (t*t) (k+1),b1:=fun k=>tmf_mul (f:=1) (by omega) (s*s) (k+1),
      y0:=s0,yx:=h,x1:=h1,b0:=by have:=m0 (s*s);show 0≤tmf 1 (s*s) 1;grind,d0:=by have:=m0 (s*s);have:=m0 (t*t);show tmf 1 (s*s) 1≤tmf 1 (t*t) 1;grind,
      i:=by
        have a:=m0 (s*s)
        have b:=m0 (t*t)
        show tmf 1 (s*s) 1*(t*t-s*s)≤2*(tmf 1 (t*t) 1-tmf 1 (s*s) 1)
        have c:=rmR (show tmf 1 (s*s) 1≤1 by grind) (show 0≤t*t-s*s by grind)
        grind }
  have dn:∀ k,0≤tmf 1 (t*t) (k+1)-tmf 1 (s*s) (k+1):=fun k=>by have:=(p.ind k).2.1;grind
  have key:∀ m,sumTo (fun k=>alt k*(tmf 1 (t*t) (k+1)-tmf 1 (s*s) (k+1))) m≤tmf 1 (t*t) 1-tmf 1 (s*s) 1:=fun m=>by
    cases m with
    | zero=>exact dn 0
    | succ m =>
      rw [sumTo_head]
      have q:=alt_sum_nonneg (D:=fun k=>tmf 1 (t*t) (k+1+1)-tmf 1 (s*s) (k+1+1)) (fun k=>dn (k+1)) (fun k=>p.half (k+1)) m
      have g:sumTo (fun i=>alt (i+1)*(tmf 1 (t*t) (i+1+1)-tmf 1 (s*s) (i+1+1))) m = -1*sumTo (fun i=>alt i*(tmf 1 (t*t) (i+1+1)-tmf 1 (s*s) (i+1+1))) m:=by
        rw [←sumTo_mul];exact sumTo_congr fun i _=>by rw [alt_succ];grind
      rw [g]
      show alt 0*(tmf 1 (t*t) 1-tmf 1 (s*s) 1)+_≤_
      have a0:alt 0=1:=rfl
      rw [a0];grind
  have e:∀ u:Rat,cosS u n=sumTo (fun k=>alt k*tmf 1 (u*u) k) n:=fun u=>cosS_alt u n
  have m1:=m0 (s*s)
  have m2:=m0 (t*t)
  cases n with
  | zero =>
    have z:∀ u:Rat,cosS u 0=0:=fun _=>rfl
    rw [z,z];grind
  | succ n =>
    rw [e,e,sumTo_head,sumTo_head]
    have g:∀ u:Rat,sumTo (fun i=>alt (i+1)*tmf 1 u (i+1)) n = -1*sumTo (fun i=>alt i*tmf 1 u (i+1)) n:=fun u=>by
      rw [←sumTo_mul];exact sumTo_congr fun i _=>by rw [alt_succ];grind
    rw [g,g]
    have q:=key n
    have e2:sumTo (fun k=>alt k*(tmf 1 (t*t) (k+1)-tmf 1 (s*s) (k+1))) n=sumTo (fun k=>alt k*tmf 1 (t*t) (k+1)) n + -1*sumTo (fun k=>alt k*tmf 1 (s*s) (k+1)) n:=by
      rw [←sumTo_mul,←sumTo_add];exact sumTo_congr fun i _=>by grind
    rw [e2] at q
    show (alt 0*1+_)-(alt 0*1+_)≤_
    grind
theorem sin_nar{a b l1 h1 l2 h2 δ ε:Rat}(hab:Nar δ a b)(b1:b≤1)(e1:Enc (sinS a) l1 h1)(e2:Enc (sinS b) l2 h2)(n1:Nar ε l1 h1)(n2:Nar ε l2 h2)(d0:0≤δ)(d1:δ≤1/8)(f0:0≤ε)(f1:ε≤1/8):Nar (2*δ+4*ε) l1 h2:=by
  obtain ⟨a0,ab,bd⟩:=hab
  obtain ⟨x0,x1,x2⟩:=n1
  obtain ⟨y0,y1,y2⟩:=n2
  have r:a*l2≤b*h1:=Enc.le (e2.scale (c:=a) (by grind)) (e1.scale (c:=b) (by grind)) (fun n=>sin_ratio (by grind) ab b1 n)
  have m:l1≤h2:=Enc.le e1 e2 (fun n=>sinS_mono (by grind) ab b1 n)
  refine ⟨x0,m,?_⟩
  have s1:=rmR bd (show 0≤h1 by grind)
  have s2:=rmL x2 (show 0≤a+δ*a by have:=rmN d0 (rlL a0);grind)
  have t:l2≤(1+δ)*(l1+ε*l1):=by
    rw [←Rat.not_lt];intro hlt
    have:=Rat.mul_lt_mul_of_pos_left hlt a0
    grind
  have u0:=rmN f0 (rlL x0)
  have u1:=rmR f1 (show 0≤l2 by grind)
  have v1:=rmL t f0
  have w1:=rmR d1 u0
  have w2:=rmR f1 u0
  have w3:=rmR f1 (rmN d0 (rlL x0))
  have w4:=rmN d0 (rlL x0)
  have w5:=rmL w2 d0
  have w6:=rmL w2 (Rat.le_refl (a:=0))
  have w7:=rmN d0 u0
  have w8:=rmR f1 w7
  grind
def VN(δ:Rat)(v:Vx):Prop:=(v.lo.rv=0∧v.hi.rv=0)∨NarV δ v
structure SinB (δ L H:Rat) (v X:Vx):Prop where
  p:X.P
  vm:VM δ L H X
  has:∀ x a b,v.lo.rv≤x→x≤v.hi.rv→Enc (sinS x) a b→X.lo.rv≤b∧a≤X.hi.rv
theorem sinS_bd'{t:Rat}(t0:t<0)(t1:-1≤t){a b:Rat}(h:Enc (sinS t) a b):a<0:=by
  have e:(fun n=>-sinS t n)=sinS (-t):=by funext n;rw [sinS_neg]
  have k:=h.neg
  rw [e] at k
  have:=(sinS_bd (t:=-t) (by grind) (by grind) k).2
  have m:=rmL (show (-t)*(-t)≤1 by have:=rmL (show -t≤1 by grind) (show 0≤-t by grind);grind) (show 0≤-t by grind)
  grind
theorem sinS_bd0{t:Rat}(t0:0<t)(t1:t≤1){a b:Rat}(h:Enc (sinS t) a b):0<b:=by
  have:=(sinS_bd t0 t1 h).2
  have m:=rmL (show t*t≤1 by have:=rmL t1 (show 0≤t by grind);grind) (show 0≤t by grind)
  grind
theorem sines_nar{v:Vx}{p:Int}{δ:Rat}{A:Int}(hv:v.P)(f1:small1 v.lo)(f2:small1 v.hi)(hn:NarV δ v)(hA:p2 A≤v.lo.rv∨p2 A≤-v.hi.rv)(d0:0≤δ)(d1:δ≤1/8)(p0:0≤p)(p1:p≤8000) :
    SinB (2*δ+4*p2 (-36-p)) (p2 (A-4)) (p2 4) v (sinesV (onesV v) p):=by
  have qA:=p2_pos A
  have r1:(oneD v.lo).rv=v.lo.rv:=rv_one hv.1
  have r2:(oneD v.hi).rv=v.hi.rv:=rv_one hv.2
  obtain ⟨a1,a2⟩:=rv_amt (d:=oneD v.lo) oneD_p
  obtain ⟨b1,b2⟩:=rv_amt (d:=oneD v.hi) oneD_p
  rw [r1] at a1 a2
  rw [r2] at b1 b2
  have w:p2 (-36-p)≤1/8:=by
    have:=p2_le (show -36-p≤-3 by omega)
    have e:p2 (-3)=1/8:=by decide +kernel
    grind
  have w0:=rlL (p2_pos (-36-p))
  have key:∀ {a b l1 h1 l2 h2:Rat},Nar δ a b→b≤1→Enc (sinS a) l1 h1→Enc (sinS b) l2 h2→NM (p2 (-36-p)) (p2 (A-4)) (p2 4) l1 h1→NM (p2 (-36-p)) (p2 (A-4)) (p2 4) l2 h2→NM (2*δ+4*p2 (-36-p)) (p2 (A-4)) (p2 4) l1 h2:=fun n hb e1 e2 n1 n2 =>
    ⟨n1.L0,n1.lo,n2.hi,sin_nar n hb e1 e2 n1.nar n2.nar d0 d1 w0 w⟩
  have lo_ne:v.lo.rv≠0∧v.hi.rv≠0∧p2 A≤((oneD v.lo).m:Rat)*p2 (oneD v.lo).e∧p2 A≤((oneD v.hi).m:Rat)*p2 (oneD v.hi).e:=by
    rcases hn with ⟨n0,n1,n2⟩|⟨n0,n1,n2⟩
    · have h:p2 A≤v.lo.rv:=by rcases hA with h | h<;>grind
      exact ⟨by grind,by grind,by rw [←a1 (by grind)];exact h,by rw [←b1 (by grind)];grind⟩
    · have h:p2 A≤-v.hi.rv:=by rcases hA with h | h<;>grind
      exact ⟨by grind,by grind,by rw [←a2 (by grind)];grind,by rw [←b2 (by grind)];exact h⟩
  obtain ⟨z1,z2,m1,m2⟩:=lo_ne
  have P:=sineV_iv (t:=oneD v.lo) (p:=p) oneD_p (small_one hv.1 f1) (by rw [r1];exact z1) m1 p0 (by omega)
  have Q:=sineV_iv (t:=oneD v.hi) (p:=p) oneD_p (small_one hv.2 f2) (by rw [r2];exact z2) m2 p0 (by omega)
  rw [r1] at P
  rw [r2] at Q
  obtain ⟨P1,P2,P3⟩:=P
  obtain ⟨Q1,Q2,Q3⟩:=Q
  have hl:v.lo.rv≤v.hi.rv:=by
    rcases hn with ⟨_,n1,_⟩|⟨_,n1,_⟩
    · exact n1
    · grind
  refine ⟨⟨P1.1,Q1.2⟩,?_,fun x a b x1 x2 E=>⟨P2.le E fun n=>sinS_mono f1.2 x1 (Rat.le_trans x2 f2.1) n,E.le Q2 fun n=>sinS_mono (Rat.le_trans f1.2 x1) x2 f2.1 n⟩⟩
  show NM _ _ _ (sineV (oneD v.lo) p).lo.rv (sineV (oneD v.hi) p).hi.rv∨NM _ _ _ (-(sineV (oneD v.hi) p).hi.rv) (-(sineV (oneD v.lo) p).lo.rv)
  rcases hn with n | n
  · obtain ⟨n0,n1,n2⟩:=n
    have s1:=sinS_bd0 n0 f1.1 P2
    have s2:=sinS_bd0 (show 0<v.hi.rv by grind) f2.1 Q2
    have g1:NM (p2 (-36-p)) (p2 (A-4)) (p2 4) (sineV (oneD v.lo) p).lo.rv (sineV (oneD v.lo) p).hi.rv:=by
      rcases P3 with h | h
      · exact h
      · exfalso;have:=h.nar.1;grind
    have g2:NM (p2 (-36-p)) (p2 (A-4)) (p2 4) (sineV (oneD v.hi) p).lo.rv (sineV (oneD v.hi) p).hi.rv:=by
      rcases Q3 with h | h
      · exact h
      · exfalso;have:=h.nar.1;grind
    exact .inl (key ⟨n0,n1,n2⟩ f2.1 P2 Q2 g1 g2)
  · obtain ⟨n0,n1,n2⟩:=n
    have s1:=sinS_bd' (show v.lo.rv<0 by grind) f1.2 P2
    have s2:=sinS_bd' (show v.hi.rv<0 by grind) f2.2 Q2
    have g1:NM (p2 (-36-p)) (p2 (A-4)) (p2 4) (-(sineV (oneD v.lo) p).hi.rv) (-(sineV (oneD v.lo) p).lo.rv):=by
      rcases P3 with h | h
      · exfalso;have:=h.nar.1;grind
      · exact h
    have g2:NM (p2 (-36-p)) (p2 (A-4)) (p2 4) (-(sineV (oneD v.hi) p).hi.rv) (-(sineV (oneD v.hi) p).lo.rv):=by
      rcases Q3 with h | h
      · exfalso;have:=h.nar.1;grind
      · exact h
    have P2':=P2.neg
    have Q2':=Q2.neg
    rw [show (fun n=>-sinS v.lo.rv n)=sinS (-v.lo.rv) by funext n;rw [sinS_neg]] at P2'
    rw [show (fun n=>-sinS v.hi.rv n)=sinS (-v.hi.rv) by funext n;rw [sinS_neg]] at Q2'
    exact .inr (key (a:=-v.hi.rv) (b:=-v.lo.rv) ⟨n0,n1,n2⟩ (by have:=f1.2;grind) Q2' P2' g2 g1)
theorem cos_gap{a b δ:Rat}(hn:Nar δ a b)(h1:b≤1)(d0:0≤δ)(n:Nat):cosS a n-cosS b n≤δ:=by
  obtain ⟨a0,ab,bd⟩:=hn
  have b1:b*b≤1:=by have:=rmL h1 (show 0≤b by grind);grind
  have c:=cos_diff (sqr_mono (rlL a0) ab) b1 n
  have m1:=rmR (show b-a≤δ*a by grind) (show 0≤b+a by grind)
  have m2:=rmR (show a≤1 by grind) (show 0≤b+a by grind)
  have m3:=rmL (show a*(b+a)≤2 by grind) d0
  grind
theorem gap_enc{s t:Nat→Rat}{a b c d δ:Rat}(h:Enc s a b)(k:Enc t c d)(g:∀ n,s n-t n≤δ):a-d≤δ:=by
  have e:=h.add k.neg
  have:=e.le (Enc.const δ) (fun n=>by have:=g n;show s n + -t n≤δ;grind)
  grind
theorem cosines_nar{v:Vx}{p:Int}{δ:Rat}(hv:v.P)(f1:small1 v.lo)(f2:small1 v.hi)(hn:VN δ v)(d0:0≤δ)(p0:0≤p)(p1:p≤8000) :
    NM (4*δ+32*p2 (-40-p)) (p2 (-2)) (p2 2) (cosinesV (onesV v) p).lo.rv (cosinesV (onesV v) p).hi.rv:=by
  have hl:v.lo.rv≤v.hi.rv:=by
    rcases hn with ⟨a,b⟩|⟨_,n1,_⟩|⟨_,n1,_⟩
    · rw [a,b];exact Rat.le_refl
    · exact n1
    · grind
  have K:=cosines_ok (p:=p) hv f1 f2 hl p0 p1
  have A:=cosineV_iv (t:=oneD v.lo) (p:=p) oneD_p (small_one hv.1 f1) p0 (by omega)
  have B:=cosineV_iv (t:=oneD v.hi) (p:=p) oneD_p (small_one hv.2 f2) p0 (by omega)
  rw [rv_one hv.1] at A
  rw [rv_one hv.2] at B
  obtain ⟨_,A2,A3⟩:=A
  obtain ⟨_,B2,B3⟩:=B
  have w0:=rlL (p2_pos (-40-p))
  have q2:p2 2=4:=by decide +kernel
  have qm:p2 (-2)=1/4:=by decide +kernel
  have aw:=A3.nar.2.2
  have bw:=B3.nar.2.2
  have al:=A3.nar.2.1
  have bl:=B3.nar.2.1
  have ah:=A3.hi
  have bh:=B3.hi
  have m1:=rmL (show (cosineV (oneD v.lo) p).lo.rv≤4 by grind) w0
  have m2:=rmL (show (cosineV (oneD v.hi) p).lo.rv≤4 by grind) w0
  have g:(cosineV (oneD v.lo) p).lo.rv-(cosineV (oneD v.hi) p).hi.rv≤δ∧(cosineV (oneD v.hi) p).lo.rv-(cosineV (oneD v.lo) p).hi.rv≤δ:=by
    rcases hn with ⟨a,b⟩ | n | n
    · rw [a] at A2
      rw [b] at B2
      have:=A2.meets B2
      have:=B2.meets A2
      constructor<;>grind
    · have x:=gap_enc A2 B2 (cos_gap n f2.1 d0)
      have y:=B2.le A2 fun k=>cosS_anti (sqr_mono (rlL n.1) n.2.1) (sqr_le1 f2.1 f2.2) k
      exact ⟨x,by grind⟩
    · have A2':Enc (cosS (-v.lo.rv)) (cosineV (oneD v.lo) p).lo.rv (cosineV (oneD v.lo) p).hi.rv:=by
        rw [show cosS (-v.lo.rv)=cosS v.lo.rv by funext k;rw [cosS_neg]];exact A2
      have B2':Enc (cosS (-v.hi.rv)) (cosineV (oneD v.hi) p).lo.rv (cosineV (oneD v.hi) p).hi.rv:=by
        rw [show cosS (-v.hi.rv)=cosS v.hi.rv by funext k;rw [cosS_neg]];exact B2
      have x:=gap_enc B2' A2' (cos_gap n (by have:=f1.2;grind) d0)
      have y:=A2'.le B2' fun k=>cosS_anti (sqr_mono (rlL n.1) n.2.1) (sqr_le1 (by have:=f1.2;grind) (by have:=f1.1;grind)) k
      exact ⟨by grind,x⟩
  have sl:=span4_lo (cosineV (oneD v.lo) p).lo (cosineV (oneD v.lo) p).hi (cosineV (oneD v.hi) p).lo (cosineV (oneD v.hi) p).hi
  have sh:=span4_hi (cosineV (oneD v.lo) p).lo (cosineV (oneD v.lo) p).hi (cosineV (oneD v.hi) p).lo (cosineV (oneD v.hi) p).hi
  have lo1:(cosinesV (onesV v) p).lo=(spanL (cosineV (oneD v.lo) p).lo [(cosineV (oneD v.lo) p).hi,(cosineV (oneD v.hi) p).lo,(cosineV (oneD v.hi) p).hi]).lo:=by
    unfold cosinesV;split<;>rfl
  have z:zeroV (onesV v)=zeroV v:=by
    unfold zeroV onesV
    show (decide ((oneD v.lo).sgn≤0) && decide (0≤(oneD v.hi).sgn))=_
    rw [one_sgn _ hv.1,one_sgn _ hv.2]
  have wide:(cosinesV (onesV v) p).hi.rv-(cosinesV (onesV v) p).lo.rv≤δ+8*p2 (-40-p):=by
    rw [lo1]
    have mm:=sl.2.2.2.2
    cases h:zeroV v with
    | true =>
      have e:(cosinesV (onesV v) p).hi=mkS 1 0:=by unfold cosinesV;rw [z,h];rfl
      obtain ⟨zl,zh⟩:=(zeroV_rv hv).1 h
      have zz:v.lo.rv=0∧v.hi.rv=0:=by
        rcases hn with n | ⟨n0,_,_⟩|⟨n0,_,_⟩
        · exact n
        · exfalso;grind
        · exfalso;grind
      rw [e,show (mkS 1 0).rv=1 from rv_int 1]
      rw [zz.1] at A2
      rw [zz.2] at B2
      have ca:=(cosS_bd (t:=0) (by decide) (by decide) A2).2
      have cb:=(cosS_bd (t:=0) (by decide) (by decide) B2).2
      rcases mm with e | e | e | e<;>rw [e]<;>grind
    | false =>
      have e:(cosinesV (onesV v) p).hi=(spanL (cosineV (oneD v.lo) p).lo [(cosineV (oneD v.lo) p).hi,(cosineV (oneD v.hi) p).lo,(cosineV (oneD v.hi) p).hi]).hi:=by
        unfold cosinesV;rw [z,h];rfl
      rw [e]
      have MM:=sh.2.2.2.2
      rcases MM with e | e | e | e<;>rw [e]<;>rcases mm with e' | e' | e' | e'<;>rw [e']<;>grind
  have lo:=K.lo
  have hi:=K.hi
  have le:=K.le
  rw [qm] at lo
  have m3:=rmL lo.1 (show 0≤4*δ+32*p2 (-40-p) by grind)
  exact ⟨p2_pos _,K.lo.1,K.hi.2,by grind,le,by grind⟩
theorem Enc.mid{s t u:Nat→Rat}{a b c d:Rat}(h:Enc s a b)(k:Enc t c d)(h1:∀ n,s n≤u n)(h2:∀ n,u n≤t n):Enc u a d:=fun e he=>by
  obtain ⟨N,x⟩:=h e he
  obtain ⟨M,y⟩:=k e he
  refine ⟨max N M,fun n hn=>?_⟩
  have:=x n (by omega)
  have:=y n (by omega)
  have:=h1 n
  have:=h2 n
  constructor<;>grind
theorem sineH_enc{t:Dx}{p:Int}(ht:0≤t.m)(h1:small1 t)(p0:0≤p)(p1:p≤60000):(sineH t p).P∧Enc (sinS t.rv) (sineH t p).lo.rv (sineH t p).hi.rv:=by
  by_cases h0:t.rv=0
  · have e:sineH t p=zeroIv:=by rw [sineH,if_pos ((sine_zero ht).2 h0)]
    have z:zeroIv.lo.rv=0:=zero_rv
    have z':zeroIv.hi.rv=0:=zero_rv
    rw [e,h0,z,z']
    exact ⟨⟨Int.le_refl _,Int.le_refl _⟩,enc_sin0⟩
  · obtain ⟨a1,a2⟩:=rv_amt ht
    have pos:0<(t.m:Rat)*p2 t.e:=by
      rcases (show 0<t.rv∨t.rv<0 by grind) with s | s
      · rw [←a1 (by grind)];exact s
      · rw [←a2 (by grind)];grind
    obtain ⟨k,k1,_⟩:=log2_ex pos
    have V:=sineH_iv ht h1 h0 k1 p0 p1
    exact ⟨V.1,V.2.1⟩
theorem cos_over{v:Vx}(hv:v.P)(f1:small1 v.lo)(f2:small1 v.hi){a b c d lo hi:Rat}(A:Enc (cosS v.lo.rv) a b)(B:Enc (cosS v.hi.rv) c d)(l1:lo≤a)(l2:lo≤c)(h:(zeroV v=true∧hi=1)∨(zeroV v=false∧b≤hi∧d≤hi)){x:Rat}(x1:v.lo.rv≤x)(x2:x≤v.hi.rv):Enc (cosS x) lo hi:=by
  have b1:x*x≤1:=sqr_le1 (by have:=f2.1;grind) (by have:=f1.2;grind)
  have c1:v.lo.rv*v.lo.rv≤1:=sqr_le1 f1.1 f1.2
  have c2:v.hi.rv*v.hi.rv≤1:=sqr_le1 f2.1 f2.2
  have x0:0≤x*x:=by
    rcases (show 0≤x∨x≤0 by grind) with g | g
    · exact rmN g g
    · have:=rmN (show 0≤-x by grind) (show 0≤-x by grind);grind
  have Z:∀ n,cosS x n≤cosS 0 n:=fun n=>cosS_anti (by rw [Rat.zero_mul];exact x0) b1 n
  have low:∃ s e,Enc s lo e∧∀ n,s n≤cosS x n:=by
    rcases (show 0≤x∨x≤0 by grind) with g | g
    · exact ⟨_,d,B.wide l2 Rat.le_refl,fun n=>cosS_anti (sqr_mono g x2) c2 n⟩
    · exact ⟨_,b,A.wide l1 Rat.le_refl,fun n=>cosS_anti (sqr_mono' g x1) c1 n⟩
  obtain ⟨s,e,E,Es⟩:=low
  rcases h with ⟨hz,rfl⟩|⟨hz,h1,h2⟩
  · exact E.mid enc_cos0 Es Z
  · rcases (show 0<v.lo.rv∨v.hi.rv<0 by
      have:=fun k=>(by rw [(zeroV_rv hv).2 k] at hz;exact absurd hz (by simp):False)
      grind) with g | g
    · exact E.mid (A.wide Rat.le_refl h1) Es fun n=>cosS_anti (sqr_mono (rlL g) x1) b1 n
    · exact E.mid (B.wide Rat.le_refl h2) Es fun n=>cosS_anti (sqr_mono' (rlL g) x2) b1 n
theorem sineV_enc{t:Dx}{p:Int}(ht:0≤t.m)(h1:small1 t)(p0:0≤p)(p1:p≤60000):(sineV t p).P∧Enc (sinS t.rv) (sineV t p).lo.rv (sineV t p).hi.rv:=by
  by_cases h0:t.rv=0
  · have e:sineV t p=zeroIv:=by rw [sineV,if_pos ((sine_zero ht).2 h0)]
    have z:zeroIv.lo.rv=0:=zero_rv
    have z':zeroIv.hi.rv=0:=zero_rv
    rw [e,h0,z,z']
    exact ⟨⟨Int.le_refl _,Int.le_refl _⟩,enc_sin0⟩
  · obtain ⟨a1,a2⟩:=rv_amt ht
    have pos:0<(t.m:Rat)*p2 t.e:=by
      rcases (show 0<t.rv∨t.rv<0 by grind) with s | s
      · rw [←a1 (by grind)];exact s
      · rw [←a2 (by grind)];grind
    obtain ⟨k,k1,_⟩:=log2_ex pos
    have V:=sineV_iv ht h1 h0 k1 p0 p1
    exact ⟨V.1,V.2.1⟩
theorem sinesV_enc{v:Vx}{p:Int}(hv:v.P)(f1:small1 v.lo)(f2:small1 v.hi)(p0:0≤p)(p1:p≤60000):(sinesV (onesV v) p).P∧∀ x,v.lo.rv≤x→x≤v.hi.rv→Enc (sinS x) (sinesV (onesV v) p).lo.rv (sinesV (onesV v) p).hi.rv:=by
  have A:=sineV_enc (t:=oneD v.lo) (p:=p) oneD_p (small_one hv.1 f1) p0 p1
  have B:=sineV_enc (t:=oneD v.hi) (p:=p) oneD_p (small_one hv.2 f2) p0 p1
  rw [rv_one hv.1] at A
  rw [rv_one hv.2] at B
  exact ⟨⟨A.1.1,B.1.2⟩,fun x x1 x2=>A.2.mid B.2 (fun n=>sinS_mono f1.2 x1 (Rat.le_trans x2 f2.1) n) fun n=>sinS_mono (Rat.le_trans f1.2 x1) x2 f2.1 n⟩
theorem cosinesV_enc{v:Vx}{p:Int}(hv:v.P)(f1:small1 v.lo)(f2:small1 v.hi)(hl:v.lo.rv≤v.hi.rv)(p0:0≤p)(p1:p≤8000):(cosinesV (onesV v) p).P∧∀ x,v.lo.rv≤x→x≤v.hi.rv→Enc (cosS x) (cosinesV (onesV v) p).lo.rv (cosinesV (onesV v) p).hi.rv:=by
  have K:=cosines_ok (p:=p) hv f1 f2 hl p0 p1
  have A:=cosineV_iv (t:=oneD v.lo) (p:=p) oneD_p (small_one hv.1 f1) p0 (by omega)
  have B:=cosineV_iv (t:=oneD v.hi) (p:=p) oneD_p (small_one hv.2 f2) p0 (by omega)
  rw [rv_one hv.1] at A
  rw [rv_one hv.2] at B
  have sl:=span4_lo (cosineV (oneD v.lo) p).lo (cosineV (oneD v.lo) p).hi (cosineV (oneD v.hi) p).lo (cosineV (oneD v.hi) p).hi
  have sh:=span4_hi (cosineV (oneD v.lo) p).lo (cosineV (oneD v.lo) p).hi (cosineV (oneD v.hi) p).lo (cosineV (oneD v.hi) p).hi
  have lo1:(cosinesV (onesV v) p).lo=(spanL (cosineV (oneD v.lo) p).lo [(cosineV (oneD v.lo) p).hi,(cosineV (oneD v.hi) p).lo,(cosineV (oneD v.hi) p).hi]).lo:=by
    unfold cosinesV;split<;>rfl
  have z:zeroV (onesV v)=zeroV v:=by
    unfold zeroV onesV
    show (decide ((oneD v.lo).sgn≤0) && decide (0≤(oneD v.hi).sgn))=_
    rw [one_sgn _ hv.1,one_sgn _ hv.2]
  refine ⟨K.xp,fun x x1 x2=>cos_over hv f1 f2 A.2.1 B.2.1 (by rw [lo1];exact sl.1) (by rw [lo1];exact sl.2.2.1) ?_ x1 x2⟩
  cases h:zeroV v with
  | true =>
    have e:(cosinesV (onesV v) p).hi=mkS 1 0:=by unfold cosinesV;rw [z,h];rfl
    exact .inl ⟨rfl,by rw [e];exact rv_int 1⟩
  | false =>
    have e:(cosinesV (onesV v) p).hi=(spanL (cosineV (oneD v.lo) p).lo [(cosineV (oneD v.lo) p).hi,(cosineV (oneD v.hi) p).lo,(cosineV (oneD v.hi) p).hi]).hi:=by
      unfold cosinesV;rw [z,h];rfl
    exact .inr ⟨rfl,by rw [e];exact sh.2.1,by rw [e];exact sh.2.2.2.1⟩
def Thin(δ:Rat)(v:Vx):Prop:=v=zeroIv∨NarV δ v
structure PairOk (v:Vx) (η:Rat) (S C:Vx):Prop where
  sp:S.P
  cp:C.P
  sf:OneV S
  cf:OneV C
  sr:rightV S=true
  cr:rightV C=true
  st:Thin η S
  s32:-32≤S.lo.rv∧S.hi.rv≤32
  cn:Nar η C.lo.rv C.hi.rv
  c0:1/8≤C.lo.rv
  c1:C.hi.rv≤8
  z:v.lo.rv=0→v.hi.rv=0→S=zeroIv
  sin:∀ x,v.lo.rv≤x→x≤v.hi.rv→Enc (sinS x) S.lo.rv S.hi.rv
  cos:∀ x,v.lo.rv≤x→x≤v.hi.rv→Enc (cosS x) C.lo.rv C.hi.rv
theorem trim_enc{s:Nat→Rat}{v:Vx}{p:Int}(hv:v.P)(hp:1≤p)(h:Enc s v.lo.rv v.hi.rv):Enc s (trimV v p).lo.rv (trimV v p).hi.rv:=by
  obtain ⟨b1,b2⟩:=trim_best hv hp
  exact h.wide b1.2.1 b2.2.1
theorem nar_v{δ L H:Rat}{v:Vx}(h:VM δ L H v):NarV δ v:=h.elim (fun h=>.inl h.nar) fun h=>.inr h.nar
theorem pair_ok{v:Vx}{q:Int}{δ:Rat}(hv:v.P)(hr:rightV v=true)(h1:faultD v.lo q=0)(h2:faultD v.hi q=0)(hn:VN δ v)(d0:0≤δ)(hd:δ≤p2 (-q)) :
    (bothR v q=((zeroIv,zeroIv),3)∧rightV (trimV (sinesV (onesV v) q) (q+8))=false)∨bothR v q=((trimV (sinesV (onesV v) q) (q+8),trimV (cosinesV (onesV v) q) (q+8)),0)∧PairOk v (p2 (5-q)) (trimV (sinesV (onesV v) q) (q+8)) (trimV (cosinesV (onesV v) q) (q+8)):=by
  obtain ⟨f1,p0,p1,m1⟩:=fault0 hv.1 h1
  obtain ⟨f2,_,_,m2⟩:=fault0 hv.2 h2
  have hl:=right_le hr
  have eR:bothR v q=both2 (cutR (sinesV (onesV v) q) q) (cutR (cosinesV (onesV v) q) q):=by
    unfold bothR checkR
    rw [if_pos hr,if_pos rfl,if_pos h1,if_pos h2]
  have K:=cosines_ok (p:=q) hv m1 m2 hl (by omega) (by omega)
  have C:=cos_cut K (by omega) (by omega)
  have c2:cutR (cosinesV (onesV v) q) q=(trimV (cosinesV (onesV v) q) (q+8),0):=by rw [cutR,if_pos C.1]
  have e1:eps (q+8)=p2 (-7-q):=by unfold eps;congr 1;omega
  have e4:4*eps (q+8)≤1:=by
    rw [e1]
    have:=p2_le (show -7-q≤-2 by omega)
    have e:p2 (-2)=1/4:=by decide +kernel
    rw [e] at this;grind
  have q0:=p2_pos (-q)
  have k36:p2 (-36-q)≤p2 (-q)/8:=by
    have:=p2_le (show -36-q≤-3 + -q by omega)
    rw [p2_add] at this
    have e:p2 (-3)=1/8:=by decide +kernel
    rw [e] at this;grind
  have k40:p2 (-40-q)≤p2 (-q)/64:=by
    have:=p2_le (show -40-q≤-6 + -q by omega)
    rw [p2_add] at this
    have e:p2 (-6)=1/64:=by decide +kernel
    rw [e] at this;grind
  have k7:p2 (-7-q)≤p2 (-q)/64:=by
    have:=p2_le (show -7-q≤-6 + -q by omega)
    rw [p2_add] at this
    have e:p2 (-6)=1/64:=by decide +kernel
    rw [e] at this;grind
  have k5:p2 (5-q)=32*p2 (-q):=by
    rw [show 5-q=5 + -q by omega,p2_add]
    have e:p2 5=32:=by decide +kernel
    rw [e]
  have q8:p2 (-q)≤1/8:=by
    have:=p2_le (show -q≤-3 by omega)
    have e:p2 (-3)=1/8:=by decide +kernel
    rw [e] at this;exact this
  have w36:=rlL (p2_pos (-36-q))
  have w40:=rlL (p2_pos (-40-q))
  cases hS:rightV (trimV (sinesV (onesV v) q) (q+8)) with
  | false =>
    have c1:cutR (sinesV (onesV v) q) q=(zeroIv,3):=by rw [cutR,if_neg (by rw [hS];simp)]
    exact .inl ⟨by rw [eR,c1,c2];rfl,rfl⟩
  | true =>
    have c1:cutR (sinesV (onesV v) q) q=(trimV (sinesV (onesV v) q) (q+8),0):=by rw [cutR,if_pos hS]
    have SE:=sinesV_enc (p:=q) hv m1 m2 (by omega) (by omega)
    have CE:=cosinesV_enc (p:=q) hv m1 m2 hl (by omega) (by omega)
    have CN:=(cosines_nar (p:=q) hv m1 m2 hn d0 (by omega) (by omega)).trim (p:=q+8) (by grind) (by omega) e4 (trim_best K.xp (by omega)).1 (trim_best K.xp (by omega)).2
    have qm:p2 (-2)=1/4:=by decide +kernel
    have q2:p2 2=4:=by decide +kernel
    have zz:v.lo.rv=0→v.hi.rv=0→trimV (sinesV (onesV v) q) (q+8)=zeroIv:=fun a b=>by
      have A:sineV (oneD v.lo) q=zeroIv:=by rw [sineV,if_pos ((sine_zero oneD_p).2 ((rv_one hv.1).trans a))]
      have B:sineV (oneD v.hi) q=zeroIv:=by rw [sineV,if_pos ((sine_zero oneD_p).2 ((rv_one hv.2).trans b))]
      have:sinesV (onesV v) q=zeroIv:=by
        show (⟨(sineV (oneD v.lo) q).lo,(sineV (oneD v.hi) q).hi⟩:Vx)=_
        rw [A,B]
      rw [this,trim_zero _ (by omega)]
    have big:NarV δ v→VM (2*(2*δ+4*p2 (-36-q))+4*eps (q+8)) (p2 (Classical.epsilon (fun A:Int=>p2 A≤v.lo.rv∨p2 A≤-v.hi.rv)-4)/2) (2*p2 4) (trimV (sinesV (onesV v) q) (q+8)):=fun hn=>by
      have hA:∃ A:Int,p2 A≤v.lo.rv∨p2 A≤-v.hi.rv:=by
        rcases hn with ⟨n0,_,_⟩|⟨n0,_,_⟩
        · obtain ⟨k,k1,_⟩:=log2_ex n0
          exact ⟨k,.inl k1⟩
        · obtain ⟨k,k1,_⟩:=log2_ex n0
          exact ⟨k,.inr k1⟩
      have SB:=sines_nar (p:=q) hv m1 m2 hn (Classical.epsilon_spec hA) d0 (by grind) (by omega) (by omega)
      exact SB.vm.trim SB.p (p:=q+8) (by grind) (by omega) e4
    refine .inr ⟨by rw [eR,c1,c2];rfl,trimV_p _ _,trimV_p _ _,⟨cutD_f SE.1.1,cutD_f SE.1.2⟩,⟨cutD_f K.xp.1,cutD_f K.xp.2⟩,hS,C.1,?_,?_,CN.nar.mono (by rw [e1,k5];grind),by have:=CN.lo;rw [qm] at this;grind,by have:=CN.hi;rw [q2] at this;grind,zz,fun x x1 x2=>trim_enc SE.1 (by omega) (SE.2 x x1 x2),fun x x1 x2=>trim_enc CE.1 (by omega) (CE.2 x x1 x2)⟩
    · rcases hn with ⟨a,b⟩ | hn
      · exact .inl (zz a b)
      · exact .inr (nar_v (big hn)|>.mono (by rw [e1,k5];grind))
    · rcases hn with ⟨a,b⟩ | hn
      · have z:zeroIv.lo.rv=0:=zero_rv
        have z':zeroIv.hi.rv=0:=zero_rv
        rw [zz a b,z,z'];decide
      · have q4:p2 4=16:=by decide +kernel
        rcases big hn with h | h
        · have a:=h.nar.1;have b:=h.nar.2.1;have c:=h.hi;rw [q4] at c;constructor<;>grind
        · have a:=h.nar.1;have b:=h.nar.2.1;have c:=h.hi;rw [q4] at c;constructor<;>grind
def turnP(k:Int)(b:Vx×Vx):Vx×Vx:=if k=1 then (b.2,turnV b.1) else if k=2 then (turnV b.1,turnV b.2) else if k=3 then (turnV b.2,b.1) else b
theorem cq_of{x:Dx}{p:Int}(h:(quarR x p).2.2=0):condQ x p:=by
  rcases quar_cases x p with ⟨_,q⟩|⟨c,_⟩|⟨c,_⟩|⟨c,_⟩|⟨c,_⟩
  · rw [q] at h;cases h
  all_goals exact c
theorem near_bd2{x c z:Rat}{n:Int}(c0:3/2≤c)(c1:c≤8/5)(h:NearI n (x*c⁻¹))(hz:z=x-(n:Rat)*c):-(4/5)≤z∧z≤4/5:=by
  have e:x=x*c⁻¹*c:=by rw [Rat.mul_assoc,Rat.inv_mul_cancel c (by grind),Rat.mul_one]
  have h1:=h.1
  have h2:=h.2.1
  have m1:=rmR h1 (show 0≤c by grind)
  have m2:=rmR h2 (show 0≤c by grind)
  rw [←e] at m1 m2
  constructor<;>grind
theorem narrow_facts2{v:Vx}{p:Int}(hv:v.P)(h:narrowB v p=true):0≤p∧rightV v=true∧v.lo.sgn=v.hi.sgn ∧
    (v.lo.sgn=0∨(lessD v.hi v.lo).zeroB=true∨((lessD v.hi v.lo).zeroB=false∧v.lo.sgn≠0∧p2 (-32768)≤(lessD v.hi v.lo).rv∧(if v.lo.sgn<0 then absD v.hi else absD v.lo).rv<p2 98304∧(lessD v.hi v.lo).rv*p2 p≤(if v.lo.sgn<0 then absD v.hi else absD v.lo).rv)):=by
  unfold narrowB at h
  simp only [Bool.and_eq_true] at h
  obtain ⟨p0,hr,hn⟩:=h
  have fv:=right_fits hr
  refine ⟨leI_true.1 p0,hr,?_⟩
  unfold narrowV at hn
  by_cases h1:v.lo.sgn=v.hi.sgn
  · refine ⟨h1,?_⟩
    rw [if_neg (by omega)] at hn
    by_cases h2:v.lo.sgn=0
    · exact .inl h2
    · rw [if_neg h2] at hn
      cases h3:(lessD v.hi v.lo).zeroB with
      | true=>exact .inr (.inl rfl)
      | false =>
        rw [h3,if_neg (by simp)] at hn
        have hw:=wide_ge hv hr h3
        have hl:(if v.lo.sgn<0 then absD v.hi else absD v.lo).rv<p2 98304:=by
          split
          · rw [rv_abs hv.2];exact fits_lt fv.2.1
          · rw [rv_abs hv.1];exact fits_lt fv.1
        refine .inr (.inr ⟨rfl,h2,hw,hl,?_⟩)
        rw [narrowX_eq lessD_p (by split<;>exact absD_p) hw hl,decide_eq_true_eq] at hn
        exact hn
  · rw [if_pos h1] at hn;simp at hn
theorem nar_of_narrow{v:Vx}{p:Int}(hv:v.P)(h:narrowB v p=true):VN (p2 (-p)) v:=by
  obtain ⟨p0,hr,sg,hc⟩:=narrow_facts2 hv h
  have le:=right_le hr
  have q:=p2_pos p
  have q':=p2_pos (-p)
  have i:=p2_neg p
  have s1:=sgn_rv hv.1
  have s2:=sgn_rv hv.2
  have wr:(lessD v.hi v.lo).rv=v.hi.rv-v.lo.rv:=rv_less hv.2 hv.1
  obtain ⟨al1,al2⟩:=rv_amt hv.1
  obtain ⟨ah1,ah2⟩:=rv_amt hv.2
  rcases s1 with ⟨a,b⟩|⟨a,b⟩|⟨a,b⟩
  · -- zero or above,by the kit's order of cases
    rcases s2 with ⟨c,d⟩|⟨c,d⟩|⟨c,d⟩<;>first | omega | skip
    all_goals first
      | exact .inl ⟨b,d⟩
      | (refine .inr (.inl ⟨b,le,?_⟩)
         rcases hc with hc | hc | ⟨_,_,_,_,hc⟩
         · omega
         · have:=(zeroB_rv lessD_p).1 hc
           have:=rmN (rlL q') (rlL b)
           grind
         · rw [if_neg (by omega),rv_abs hv.1,←al1 (rlL b),wr] at hc
           have m:=rmL hc (rlL q')
           have e:p2 (-p)*((v.hi.rv-v.lo.rv)*p2 p)=v.hi.rv-v.lo.rv:=by rw [show p2 (-p)*((v.hi.rv-v.lo.rv)*p2 p)=(v.hi.rv-v.lo.rv)*(p2 (-p)*p2 p) by grind,i,Rat.mul_one]
           grind)
  · rcases s2 with ⟨c,d⟩|⟨c,d⟩|⟨c,d⟩<;>first | omega | skip
    all_goals first
      | exact .inl ⟨b,d⟩
      | (refine .inr (.inl ⟨b,le,?_⟩)
         rcases hc with hc | hc | ⟨_,_,_,_,hc⟩
         · omega
         · have:=(zeroB_rv lessD_p).1 hc
           have:=rmN (rlL q') (rlL b)
           grind
         · rw [if_neg (by omega),rv_abs hv.1,←al1 (rlL b),wr] at hc
           have m:=rmL hc (rlL q')
           have e:p2 (-p)*((v.hi.rv-v.lo.rv)*p2 p)=v.hi.rv-v.lo.rv:=by rw [show p2 (-p)*((v.hi.rv-v.lo.rv)*p2 p)=(v.hi.rv-v.lo.rv)*(p2 (-p)*p2 p) by grind,i,Rat.mul_one]
           grind)
  · rcases s2 with ⟨c,d⟩|⟨c,d⟩|⟨c,d⟩<;>first | omega | skip
    refine .inr (.inr ⟨by grind,by grind,?_⟩)
    rcases hc with hc | hc | ⟨_,_,_,_,hc⟩
    · omega
    · have:=(zeroB_rv lessD_p).1 hc
      have:=rmN (rlL q') (show 0≤-v.hi.rv by grind)
      grind
    · rw [if_pos (by omega),rv_abs hv.2,←ah2 (rlL d),wr] at hc
      have m:=rmL hc (rlL q')
      have e:p2 (-p)*((v.hi.rv-v.lo.rv)*p2 p)=v.hi.rv-v.lo.rv:=by rw [show p2 (-p)*((v.hi.rv-v.lo.rv)*p2 p)=(v.hi.rv-v.lo.rv)*(p2 (-p)*p2 p) by grind,i,Rat.mul_one]
      grind
def Ab(x K:Rat):Prop:=-K≤x∧x≤K
theorem sqN(z:Rat):0≤z*z:=by
  rcases (show 0≤z∨0≤-z by grind) with q | q
  · exact rmN q q
  · have:=rmN q q;grind
theorem Ab.mono{x K L:Rat}(h:Ab x K)(k:K≤L):Ab x L:=⟨by have:=h.1;grind,by have:=h.2;grind⟩
theorem Ab.nonneg{x K:Rat}(h:Ab x K):0≤K:=by have:=h.1;have:=h.2;grind
theorem Ab.add{x y K L:Rat}(h:Ab x K)(k:Ab y L):Ab (x+y) (K+L):=by
  obtain ⟨a,b⟩:=h;obtain ⟨c,d⟩:=k;exact ⟨by grind,by grind⟩
theorem Ab.neg{x K:Rat}(h:Ab x K):Ab (-x) K:=by obtain ⟨a,b⟩:=h;exact ⟨by grind,by grind⟩
theorem Ab.sub{x y K L:Rat}(h:Ab x K)(k:Ab y L):Ab (x-y) (K+L):=by
  obtain ⟨a,b⟩:=h;obtain ⟨c,d⟩:=k;exact ⟨by grind,by grind⟩
theorem Ab.mul{x y K L:Rat}(h:Ab x K)(k:Ab y L):Ab (x*y) (K*L):=by
  have n:=h.nonneg
  obtain ⟨a,b⟩:=h;obtain ⟨c,d⟩:=k
  have r1:=rmN (show 0≤K-x by grind) (show 0≤L-y by grind)
  have r2:=rmN (show 0≤K+x by grind) (show 0≤L+y by grind)
  have r3:=rmN (show 0≤K-x by grind) (show 0≤L+y by grind)
  have r4:=rmN (show 0≤K+x by grind) (show 0≤L-y by grind)
  exact ⟨by grind,by grind⟩
theorem Ab.zero{K:Rat}(h:0≤K):Ab 0 K:=⟨by grind,h⟩
theorem Ab.of_mul{c z K:Rat}(hc:0<c)(h:Ab (c*z) (c*K)):Ab z K:=by
  obtain ⟨a,b⟩:=h
  refine ⟨Rat.not_lt.1 fun k=>?_,Rat.not_lt.1 fun k=>?_⟩
  · have:=Rat.mul_pos hc (show 0 < -K-z by grind);grind
  · have:=Rat.mul_pos hc (show 0<z-K by grind);grind
theorem Ab.alt{x K:Rat}(h:Ab x K)(i:Nat):Ab (alt i*x) K:=by
  rcases alt_one i with e | e<;>rw [e]
  · rw [Rat.one_mul];exact h
  · have:=h.neg;rwa [show -1*x = -x by grind]
theorem Ab.congr{x y K:Rat}(h:Ab x K)(e:y=x):Ab y K:=e ▸ h
theorem Ab.sq{x K:Rat}(h:Ab x K):x*x≤K*K:=(h.mul h).2
theorem sum_ab{B:Rat}{b:Nat→Rat}(h:∀ i,Ab (b i) (B*hf i))(n:Nat):Ab (sumTo b n) (2*B):=by
  have:=Dec.tail_le (B:=B) (b:=b) h (Nat.zero_le n)
  rw [hf_zero] at this
  have e:sumTo b 0=0:=rfl
  rw [e] at this
  exact ⟨by grind,by grind⟩
theorem nat_pos2(j:Nat):(0:Rat)<((j+2:Nat):Rat):=nat_pos (j+1)
theorem cast_add2(j:Nat):((j+2:Nat):Rat)=(j:Rat)+2:=by
  have:=Rat.natCast_add j 2
  exact this
theorem cast_nonneg(j:Nat):(0:Rat)≤(j:Rat):=by exact_mod_cast Nat.zero_le j
theorem hf_nonneg(k:Nat):0≤hf k:=rlL (hf_pos k)
theorem dpw_ab{t:Rat}(h:Ab t 1):∀ k,Ab (dpw t k) (2*hf k)
  | 0=>by rw [hf_zero];exact ⟨by show _≤(1:Rat);grind,by show (1:Rat)≤_;grind⟩
  | 1=>by
    have e:dpw t 1=t:=by
      have h:=dpw_succ t 0
      have e:((0+1:Nat):Rat)=1:=rfl
      rw [e] at h
      have:dpw t 0=1:=rfl
      rw [this] at h
      have h2:dpw t (0+1)=dpw t 1:=rfl
      grind
    rw [e,hf_one];exact h
  | k+2=>by
    have ih:=dpw_ab h (k+1)
    have s:=dpw_succ t (k+1)
    refine Ab.of_mul (nat_pos2 k) ?_
    have m:=h.mul ih
    rw [Rat.one_mul,←s] at m
    refine m.mono ?_
    have e:=hf_succ (k+1)
    have c:=cast_add2 k
    have p:=rmN (cast_nonneg k) (hf_nonneg (k+1+1))
    show 2*hf (k+1)≤((k+2:Nat):Rat)*(2*hf (k+1+1))
    rw [c];grind
def dE(a d:Rat)(j:Nat):Rat:=dpw (a+d) (j+1)-dpw a (j+1)-d*dpw a j
theorem dE_succ(a d:Rat)(j:Nat):((j+2:Nat):Rat)*dE a d (j+1)=d*d*dpw a j+(a+d)*dE a d j:=by
  have s1:=dpw_succ (a+d) (j+1)
  have s2:=dpw_succ a (j+1)
  have s3:=dpw_succ a j
  have c2:=cast_add2 j
  have c1:((j+1:Nat):Rat)=(j:Rat)+1:=Rat.natCast_add j 1
  have c3:((j+1+1:Nat):Rat)=(j:Rat)+2:=c2
  rw [c3] at s1 s2
  rw [c1] at s3
  rw [c2]
  unfold dE
  generalize dpw (a+d) (j+1+1)=X at *
  generalize dpw a (j+1+1)=Y at *
  generalize dpw (a+d) (j+1)=Z at *
  generalize dpw a (j+1)=U at *
  generalize dpw a j=V at *
  grind
theorem dE_ab{a d:Rat}(ha:Ab a 1)(hd:Ab (a+d) 1):∀ j,Ab (dE a d j) (4*(d*d)*hf j)
  | 0=>by
    have e:∀ t:Rat,dpw t 1=t:=fun t=>by
      have h:=dpw_succ t 0
      have e:((0+1:Nat):Rat)=1:=rfl
      rw [e] at h
      have:dpw t 0=1:=rfl
      rw [this] at h
      have h2:dpw t (0+1)=dpw t 1:=rfl
      grind
    have z:dE a d 0=0:=by
      show dpw (a+d) 1-dpw a 1-d*1=0
      rw [e,e];grind
    rw [z,hf_zero]
    have:=sqN d
    exact Ab.zero (by grind)
  | j+1=>by
    have ih:=dE_ab ha hd j
    have s:=dE_succ a d j
    refine Ab.of_mul (nat_pos2 j) ?_
    rw [s]
    have q:=sqN d
    have dd:Ab (d*d) (d*d):=⟨by grind,by grind⟩
    have m1:=dd.mul (dpw_ab ha j)
    have m2:=hd.mul ih
    have e:=hf_succ j
    have c:=cast_add2 j
    cases j with
    | zero =>
      have z:dE a d 0=0:=by
        have:=ih
        have e:∀ t:Rat,dpw t 1=t:=fun t=>by
          have h:=dpw_succ t 0
          have e:((0+1:Nat):Rat)=1:=rfl
          rw [e] at h
          have:dpw t 0=1:=rfl
          rw [this] at h
          have h2:dpw t (0+1)=dpw t 1:=rfl
          grind
        show dpw (a+d) 1-dpw a 1-d*1=0
        rw [e,e];grind
      rw [z]
      rw [hf_zero] at m1
      have z2:(a+d)*0=0:=Rat.mul_zero _
      rw [z2]
      refine (m1.add (Ab.zero (K:=0) Rat.le_refl)).mono ?_
      have p:=rmN q (hf_nonneg 1)
      have h1:=hf_one
      show d*d*(2*1)+0≤((0+2:Nat):Rat)*(4*(d*d)*hf (0+1))
      have c0:((0+2:Nat):Rat)=2:=rfl
      rw [c0]
      have e2:2*(4*(d*d)*hf (0+1))=4*(d*d)*(2*hf 1):=by grind
      rw [e2,h1];grind
    | succ i =>
      refine (m1.add m2).mono ?_
      rw [c]
      have p:=rmN q (hf_nonneg (i+1+1))
      have p2:=rmN (cast_nonneg i) p
      have c1:((i+1:Nat):Rat)=(i:Rat)+1:=Rat.natCast_add i 1
      rw [c1,e]
      grind
theorem hf_mono2(i:Nat):hf (2*i)≤hf i:=hf_le (by omega)
theorem hf_mono3(i:Nat):hf (2*i+1)≤hf i:=hf_le (by omega)
theorem sq_bd{d:Rat}{i j:Nat}(h:i≤j):4*(d*d)*hf j≤4*(d*d)*hf i:=by
  have:=rmL (hf_le h) (sqN d);grind
theorem sin_step{a d:Rat}(ha:Ab a 1)(hd:Ab (a+d) 1)(n:Nat):Ab (sinS (a+d) n-sinS a n-d*cosS a n) (8*(d*d)):=by
  have e:sinS (a+d) n-sinS a n-d*cosS a n=sumTo (fun i=>alt i*dE a d (2*i)) n:=by
    induction n with
    | zero=>show (0:Rat)-0-d*0=0;grind
    | succ n ih =>
      show (sinS (a+d) n+sinT (a+d) n)-(sinS a n+sinT a n)-d*(cosS a n+cosT a n)=sumTo _ n+_
      rw [←ih];unfold sinT cosT dE;grind
  rw [e]
  exact (sum_ab (B:=4*(d*d)) (fun i=>((dE_ab ha hd (2*i)).alt i).mono (sq_bd (by omega))) n).mono (by grind)
theorem cos_step{a d:Rat}(ha:Ab a 1)(hd:Ab (a+d) 1)(n:Nat):Ab (cosS (a+d) n-cosS a n+d*sinS a n) (8*(d*d)+4*hf n):=by
  have e:∀ n,cosS (a+d) (n+1)-cosS a (n+1)+d*sinS a n=sumTo (fun i=>-1*(alt i*dE a d (2*i+1))) n:=by
    intro n
    induction n with
    | zero=>show ((0:Rat)+1*1)-(0+1*1)+d*0=0;grind
    | succ n ih =>
      show (cosS (a+d) (n+1)+cosT (a+d) (n+1))-(cosS a (n+1)+cosT a (n+1))+d*(sinS a n+sinT a n)=sumTo _ n+_
      rw [←ih];unfold sinT cosT dE;rw [alt_succ,show 2*(n+1)=2*n+1+1 by omega];grind
  have b:=sum_ab (B:=4*(d*d)) (b:=fun i=>-1*(alt i*dE a d (2*i+1))) (fun i=>by
    have:=(((dE_ab ha hd (2*i+1)).alt i).mono (sq_bd (d:=d) (show i≤2*i+1 by omega))).neg
    exact this.congr (by grind)) n
  rw [←e] at b
  have t1:=(dpw_ab hd (2*n)).alt n
  have t2:=(dpw_ab ha (2*n)).alt n
  have h:=hf_mono2 n
  have u1:cosS (a+d) (n+1)=cosS (a+d) n+alt n*dpw (a+d) (2*n):=rfl
  have u2:cosS a (n+1)=cosS a n+alt n*dpw a (2*n):=rfl
  rw [u1,u2] at b
  refine ((b.sub (t1.sub t2)).congr (by grind)).mono (by grind)
theorem sin_ab{a:Rat}(ha:Ab a 1)(n:Nat):Ab (sinS a n) 4 :=
  (sum_ab (B:=2) (fun i=>((dpw_ab ha (2*i+1)).alt i).mono (by have:=hf_mono3 i;grind)) n).mono (by grind)
theorem cos_ab{a:Rat}(ha:Ab a 1)(n:Nat):Ab (cosS a n) 4 :=
  (sum_ab (B:=2) (fun i=>((dpw_ab ha (2*i)).alt i).mono (by have:=hf_mono2 i;grind)) n).mono (by grind)
def pw(x:Rat):Nat→Rat
  | 0=>1
  | k+1=>x*pw x k
def qw(x:Rat)(j:Nat):Rat:=pw x (j+1)*((j+1:Nat):Rat)⁻¹
theorem qw_mul(x:Rat)(j:Nat):((j+1:Nat):Rat)*qw x j=pw x (j+1):=by
  unfold qw
  have:=Rat.mul_inv_cancel ((j+1:Nat):Rat) (fun h=>by have:=nat_pos j;grind)
  grind
theorem pw_ab{x:Rat}(h:Ab x (1/4)):∀ k,Ab (pw x k) (hf (2*k))
  | 0=>by show Ab 1 (hf 0);rw [hf_zero];exact ⟨by grind,by grind⟩
  | k+1=>by
    have m:=h.mul (pw_ab h k)
    refine m.mono ?_
    have e1:=hf_succ (2*k)
    have e2:=hf_succ (2*k+1)
    rw [show 2*(k+1)=2*k+1+1 by omega];grind
def qE(x d:Rat)(j:Nat):Rat:=qw (x+d) j-qw x j-d*pw x j
theorem pw_step(x d:Rat):∀ j:Nat,pw (x+d) (j+1)-pw x (j+1)-((j+1:Nat):Rat)*(d*pw x j)=((j+1:Nat):Rat)*qE x d j:=fun j=>by
  have s1:=qw_mul (x+d) j
  have s2:=qw_mul x j
  unfold qE
  rw [←s1,←s2];grind
theorem qE_succ(x d:Rat)(j:Nat):((j+2:Nat):Rat)*qE x d (j+1)=((j+1:Nat):Rat)*((x+d)*qE x d j+d*d*pw x j):=by
  have s1:=pw_step x d (j+1)
  have s0:=pw_step x d j
  have c2:=cast_add2 j
  have c1:((j+1:Nat):Rat)=(j:Rat)+1:=Rat.natCast_add j 1
  have c3:((j+1+1:Nat):Rat)=(j:Rat)+2:=c2
  rw [c3] at s1
  rw [c1] at s0 ⊢
  rw [c2,←s1]
  have e1:pw (x+d) (j+1+1)=(x+d)*pw (x+d) (j+1):=rfl
  have e2:pw x (j+1+1)=x*pw x (j+1):=rfl
  have e3:pw x (j+1)=x*pw x j:=rfl
  rw [e1,e2]
  rw [e3] at s0 ⊢
  generalize pw (x+d) (j+1)=Z at *
  generalize pw x j=V at *
  have:Z=x*V+((j:Rat)+1)*(d*V)+((j:Rat)+1)*qE x d j:=by grind
  rw [this];grind
theorem qE_ab{x d:Rat}(hx:Ab x (1/4))(hd:Ab (x+d) (1/4)):∀ j,Ab (qE x d j) (4*(d*d)*hf j)
  | 0=>by
    have e:∀ t:Rat,qw t 0=t:=fun t=>by
      have h:=qw_mul t 0
      have e:((0+1:Nat):Rat)=1:=rfl
      have e2:pw t (0+1)=t*1:=rfl
      rw [e,e2] at h;grind
    have z:qE x d 0=0:=by
      show qw (x+d) 0-qw x 0-d*1=0
      rw [e,e];grind
    rw [z,hf_zero]
    have:=sqN d
    exact Ab.zero (by grind)
  | j+1=>by
    have ih:=qE_ab hx hd j
    refine Ab.of_mul (nat_pos2 j) ?_
    rw [qE_succ]
    have q:=sqN d
    have dd:Ab (d*d) (d*d):=⟨by grind,by grind⟩
    have m1:=dd.mul ((pw_ab hx j).mono (hf_mono2 j))
    have m2:=hd.mul ih
    have e:=hf_succ j
    have p:=rmN q (hf_nonneg j)
    have c1:Ab ((j+1:Nat):Rat) ((j+2:Nat):Rat):=by
      have:=cast_add2 j
      have:=cast_nonneg j
      have c1:((j+1:Nat):Rat)=(j:Rat)+1:=Rat.natCast_add j 1
      exact ⟨by grind,by grind⟩
    have key:1/4*(4*(d*d)*hf j)+d*d*hf j≤4*(d*d)*hf (j+1):=by rw [e];grind
    exact c1.mul ((m2.add m1).mono key)
def atS(x:Rat)(n:Nat):Rat:=sumTo (fun k=>alt k*qw x (2*k)) n
def gS(x:Rat)(n:Nat):Rat:=sumTo (fun k=>alt k*pw x (2*k)) n
theorem at_step{x d:Rat}(hx:Ab x (1/4))(hd:Ab (x+d) (1/4))(n:Nat):Ab (atS (x+d) n-atS x n-d*gS x n) (8*(d*d)):=by
  have e:atS (x+d) n-atS x n-d*gS x n=sumTo (fun i=>alt i*qE x d (2*i)) n:=by
    induction n with
    | zero=>show (0:Rat)-0-d*0=0;grind
    | succ n ih =>
      show (atS (x+d) n+alt n*qw (x+d) (2*n))-(atS x n+alt n*qw x (2*n))-d*(gS x n+alt n*pw x (2*n))=sumTo _ n+_
      rw [←ih];unfold qE;grind
  rw [e]
  exact (sum_ab (B:=4*(d*d)) (fun i=>((qE_ab hx hd (2*i)).alt i).mono (sq_bd (by omega))) n).mono (by grind)
theorem gS_eq(x:Rat)(n:Nat):gS x n+x*x*gS x n=1-alt n*pw x (2*n):=by
  induction n with
  | zero=>show (0:Rat)+x*x*0=1-1*1;grind
  | succ n ih =>
    show (gS x n+alt n*pw x (2*n))+x*x*(gS x n+alt n*pw x (2*n))=_
    have e:pw x (2*(n+1))=x*(x*pw x (2*n)):=rfl
    rw [alt_succ,e];grind
theorem gS_ab{x:Rat}(hx:Ab x (1/4))(n:Nat):Ab (gS x n) 2 :=
  (sum_ab (B:=1) (fun i=>((pw_ab hx (2*i)).alt i).mono (by have:=hf_le (show i≤2*(2*i) by omega);grind)) n).mono (by grind)
theorem qw_ab{x:Rat}(hx:Ab x (1/4))(j:Nat):Ab (qw x j) (hf (2*(j+1))):=by
  refine Ab.of_mul (nat_pos j) ?_
  rw [qw_mul]
  refine (pw_ab hx (j+1)).mono ?_
  have c1:((j+1:Nat):Rat)=(j:Rat)+1:=Rat.natCast_add j 1
  have:=rmN (cast_nonneg j) (hf_nonneg (2*(j+1)))
  rw [c1];grind
theorem atS_ab{x:Rat}(hx:Ab x (1/4))(n:Nat):Ab (atS x n) (1/2) :=
  (sum_ab (B:=1/4) (fun i=>((qw_ab hx (2*i)).alt i).mono (by
    have e1:=hf_add 2 (4*i)
    have e2:hf 2=1/4:=by have a:=hf_succ 0;have b:=hf_succ 1;rw [hf_zero] at a;grind
    have l:=hf_le (show i≤4*i by omega)
    rw [show 2*(2*i+1)=2+4*i by omega,e1,e2];grind)) n).mono (by grind)
def vS(x:Rat)(n:Nat):Rat:=sinS (atS x n) n-x*cosS (atS x n) n
theorem vS_step{x d:Rat}(hx:Ab x (1/4))(hd:Ab (x+d) (1/4))(d0:0≤d)(d1:d≤1/4)(n:Nat):Ab (vS (x+d) n-vS x n*(1+d*(x*gS x n))) (400*(d*d)+8*hf n):=by
  have A:=atS_ab hx n
  have A':=atS_ab hd n
  have st:=at_step hx hd n
  have g:=gS_ab hx n
  have dn:Ab d d:=⟨by grind,by grind⟩
  have q:=rmN d0 d0
  have q4:=rmL d1 d0
  have h0:=hf_nonneg n
  have dl:Ab (atS (x+d) n-atS x n) (4*d):=((st.add (dn.mul g)).congr (by grind)).mono (by grind)
  have dq:=dl.sq
  have s1:=sin_step (A.mono (show (1:Rat)/2≤1 by decide +kernel)) (d:=atS (x+d) n-atS x n) (by rw [show atS x n+(atS (x+d) n-atS x n)=atS (x+d) n by grind];exact A'.mono (by decide +kernel)) n
  have c1:=cos_step (A.mono (show (1:Rat)/2≤1 by decide +kernel)) (d:=atS (x+d) n-atS x n) (by rw [show atS x n+(atS (x+d) n-atS x n)=atS (x+d) n by grind];exact A'.mono (by decide +kernel)) n
  rw [show atS x n+(atS (x+d) n-atS x n)=atS (x+d) n by grind] at s1 c1
  have bs:=sin_ab (A.mono (show (1:Rat)/2≤1 by decide +kernel)) n
  have bc:=cos_ab (A.mono (show (1:Rat)/2≤1 by decide +kernel)) n
  have e4:=gS_eq x n
  have b4:=((pw_ab hx (2*n)).alt n).mono (hf_le (show n≤2*(2*n) by omega))
  unfold vS
  generalize sinS (atS (x+d) n) n=s' at *
  generalize cosS (atS (x+d) n) n=c' at *
  generalize sinS (atS x n) n=s at *
  generalize cosS (atS x n) n=c at *
  generalize atS (x+d) n-atS x n=δ at *
  generalize gS x n=G at *
  generalize alt n*pw x (2*n)=r at *
  generalize hf n=H at *
  have k1:=(dn.mul bc).mul b4
  have k2:=st.mul (bc.add (hx.mul bs))
  have k3:=(dn.mul dl).mul bs
  have k4:=s1
  have k5:=hd.mul c1
  have t:=(((k2.sub k1).add k3).add k4).sub k5
  have dH:=rmR d1 h0
  refine (t.congr ?_).mono ?_
  · have e5:c=(G+x*x*G)*c+r*c:=by rw [e4];grind
    have e6:d*c=d*((G+x*x*G)*c+r*c):=by rw [←e5]
    grind
  · grind
theorem vS_zero(n:Nat):vS 0 n=0:=by
  have a:∀ k,pw 0 (k+1)=0:=fun k=>Rat.zero_mul _
  have z:∀ n,atS 0 n=0:=fun n=>by
    induction n with
    | zero=>rfl
    | succ n ih =>
      show atS 0 n+alt n*(pw 0 (2*n+1)*_)=0
      rw [ih,a];grind
  have s:∀ n,sinS 0 n=0:=fun n=>by
    induction n with
    | zero=>rfl
    | succ n ih =>
      show sinS 0 n+alt n*dpw 0 (2*n+1)=0
      rw [ih,dpw_zero];grind
  unfold vS
  rw [z,s];grind
theorem vS_steps{d:Rat}(d0:0≤d){N:Nat}(hN:(N:Rat)*d≤1/4)(n:Nat):∀ j:Nat,j≤N→Ab (vS ((j:Rat)*d) n) ((j:Rat)*(2*(400*(d*d)+8*hf n)))
  | 0,_=>by
    have e:((0:Nat):Rat)=0:=rfl
    rw [e,Rat.zero_mul,Rat.zero_mul,vS_zero];exact Ab.zero Rat.le_refl
  | j+1,hj=>by
    have ih:=vS_steps d0 hN n j (by omega)
    have c1:((j+1:Nat):Rat)=(j:Rat)+1:=Rat.natCast_add j 1
    have le:((j+1:Nat):Rat)*d≤(N:Rat)*d:=rmR (by exact_mod_cast hj) d0
    have j0:=rmN (cast_nonneg j) d0
    rw [c1] at le
    have hx:Ab ((j:Rat)*d) (1/4):=⟨by grind,by grind⟩
    have hd:Ab ((j:Rat)*d+d) (1/4):=⟨by grind,by grind⟩
    have st:=vS_step hx hd d0 (by grind) n
    have g:=gS_ab hx n
    have xg:=(hx.mul g).mono (show (1:Rat)/4*2≤1 by decide +kernel)
    have dn:Ab d d:=⟨by grind,by grind⟩
    have m:=ih.mul (dn.mul xg)
    have E0:0≤400*(d*d)+8*hf n:=by have:=rmN d0 d0;have:=hf_nonneg n;grind
    rw [c1,show ((j:Rat)+1)*d=(j:Rat)*d+d by grind]
    have t:=(st.add ih).add m
    refine (t.congr (by grind)).mono ?_
    have:=rmR (show (j:Rat)*d≤1/4 by grind) E0
    grind
theorem two_hf:∀ n:Nat,((2^n:Nat):Rat)*hf n=1
  | 0=>by rw [hf_zero];decide +kernel
  | n+1=>by
    have ih:=two_hf n
    have e:=hf_succ n
    have c:((2^(n+1):Nat):Rat)=((2^n:Nat):Rat)*2:=by rw [Nat.pow_succ];exact Rat.natCast_mul _ _
    rw [c];grind
theorem one_le_cast(n:Nat):(1:Rat)≤((n+1:Nat):Rat):=by
  have c1:((n+1:Nat):Rat)=(n:Rat)+1:=Rat.natCast_add n 1
  have:=cast_nonneg n
  rw [c1];grind
theorem of_nhf{K e:Rat}(K0:0≤K){n:Nat}(h:((n+1:Nat):Rat)*(K*hf (n+1))≤e):K*hf (n+1)≤e:=by
  have p:=rmN K0 (hf_nonneg (n+1))
  have:=rmR (one_le_cast n) p
  grind
theorem arch(K:Rat)(K0:0≤K){e:Rat}(he:0<e):∃ N:Nat,0<N∧K≤(N:Rat)*e:=by
  obtain ⟨M,hM⟩:=nhf_small K e he
  have h:=of_nhf K0 (hM (M+1) (by omega))
  refine ⟨2^(M+1),Nat.two_pow_pos _,?_⟩
  have t:=two_hf (M+1)
  have:=rmL h (cast_nonneg (2^(M+1)))
  generalize ((2^(M+1):Nat):Rat)=C at *
  have e2:C*(K*hf (M+1))=K*(C*hf (M+1)):=by grind
  rw [e2,t] at this;grind
theorem tan_at{x:Rat}(x0:0≤x)(x1:x≤1/4):Near (fun n=>sinS (atS x n) n) (fun n=>x*cosS (atS x n) n):=fun e he=>by
  obtain ⟨N,N1,hN⟩:=arch 200 (by decide +kernel) he
  have Np:(0:Rat)<(N:Rat):=by exact_mod_cast N1
  have im:=Rat.mul_inv_cancel (N:Rat) (fun h=>by grind)
  have ip:0<(N:Rat)⁻¹:=Rat.inv_pos.2 Np
  obtain ⟨d,hd⟩:∃ d:Rat,d=x*(N:Rat)⁻¹:=⟨_,rfl⟩
  have Nd:(N:Rat)*d=x:=by rw [hd];grind
  have d0:0≤d:=by rw [hd];exact rmN x0 (rlL ip)
  obtain ⟨M,hM⟩:=nhf_small (16*(N:Rat)) (e/2) (by grind)
  refine ⟨M+1,fun n hn=>?_⟩
  obtain ⟨m,rfl⟩:∃ m,n=m+1:=⟨n-1,by omega⟩
  have h2:=of_nhf (by grind) (hM (m+1) (by omega))
  have b:=vS_steps d0 (by rw [Nd];exact x1) (m+1) N (Nat.le_refl N)
  rw [Nd] at b
  have h1:800*(x*d)≤e/2:=by
    have m1:=rmR x1 d0
    have m2:=rmR x1 (rlL ip)
    have m3:=rmR hN (rlL ip)
    have e3:(N:Rat)*e*(N:Rat)⁻¹=e:=by grind
    rw [e3] at m3
    rw [←hd] at m2
    grind
  have e5:(N:Rat)*(2*(400*(d*d)+8*hf (m+1)))=800*(x*d)+16*(N:Rat)*hf (m+1):=by rw [←Nd];grind
  rw [e5] at b
  obtain ⟨b1,b2⟩:=b
  unfold vS at b1 b2
  exact ⟨by grind,by grind⟩
theorem dpw_ab2{t:Rat}(h:Ab t 2):∀ k,Ab (dpw t k) (16*hf k):=by
  have st:∀ (k:Nat) (K:Rat),Ab (dpw t k) K→Ab (((k+1:Nat):Rat)*dpw t (k+1)) (2*K):=fun k K i=>by rw [dpw_succ];exact h.mul i
  have e0:dpw t 0=1:=rfl
  have b0:Ab (dpw t 0) 1:=by rw [e0];exact ⟨by grind,by grind⟩
  have h1:hf 1=1/2:=by have:=hf_one;grind
  have h2:hf 2=1/4:=by have:=hf_succ 1;grind
  have h3:hf 3=1/8:=by have:=hf_succ 2;grind
  have b1:Ab (dpw t 1) 2:=Ab.of_mul (nat_pos 0) ((st 0 1 b0).mono (by rw [show ((0+1:Nat):Rat)=1 from rfl];grind))
  have b2:Ab (dpw t 2) 2:=Ab.of_mul (nat_pos 1) ((st 1 2 b1).mono (by rw [show ((1+1:Nat):Rat)=2 from rfl];grind))
  have b3:Ab (dpw t 3) 2:=Ab.of_mul (nat_pos 2) ((st 2 2 b2).mono (by rw [show ((2+1:Nat):Rat)=3 from rfl];grind))
  have rest:∀ k,Ab (dpw t (k+3)) (16*hf (k+3)):=fun k=>by
    induction k with
    | zero=>exact b3.mono (by rw [h3];decide +kernel)
    | succ k ih =>
      refine Ab.of_mul (nat_pos (k+3)) ((st (k+3) _ ih).mono ?_)
      have e:=hf_succ (k+3)
      have c:((k+3+1:Nat):Rat)=(k:Rat)+4:=Rat.natCast_add k 4
      have p:=rmN (cast_nonneg k) (hf_nonneg (k+3+1))
      rw [c,e];grind
  intro k
  match k with
  | 0=>exact b0.mono (by rw [hf_zero];decide +kernel)
  | 1=>exact b1.mono (by rw [h1];decide +kernel)
  | 2=>exact b2.mono (by rw [h2];decide +kernel)
  | k+3=>exact rest k
theorem cosT_dec2{t:Rat}(h:Ab t 2):Dec 16 (cosT t):=fun i=>((dpw_ab2 h (2*i)).alt i).mono (by have:=hf_mono2 i;grind)
theorem sinT_dec2{t:Rat}(h:Ab t 2):Dec 16 (sinT t):=fun i=>((dpw_ab2 h (2*i+1)).alt i).mono (by have:=hf_mono3 i;grind)
theorem sin_ab2{t:Rat}(h:Ab t 2)(n:Nat):Ab (sinS t n) 32:=(sum_ab (fun i=>sinT_dec2 h i) n).mono (by decide +kernel)
theorem cos_ab2{t:Rat}(h:Ab t 2)(n:Nat):Ab (cosS t n) 32:=(sum_ab (fun i=>cosT_dec2 h i) n).mono (by decide +kernel)
def sinQ(a:Nat→Rat)(n:Nat):Rat:=sinS (a n) n
def cosQ(a:Nat→Rat)(n:Nat):Rat:=cosS (a n) n
def AbS(a:Nat→Rat)(K:Rat):Prop:=∀ n,Ab (a n) K
theorem AbS.mono{a:Nat→Rat}{K L:Rat}(h:AbS a K)(k:K≤L):AbS a L:=fun n=>(h n).mono k
theorem AbS.sin{a:Nat→Rat}(h:AbS a 2):AbS (sinQ a) 32:=fun n=>sin_ab2 (h n) n
theorem AbS.cos{a:Nat→Rat}(h:AbS a 2):AbS (cosQ a) 32:=fun n=>cos_ab2 (h n) n
theorem AbS.mul{a b:Nat→Rat}{K L:Rat}(h:AbS a K)(k:AbS b L):AbS (fun n=>a n*b n) (K*L):=fun n=>(h n).mul (k n)
theorem AbS.add{a b:Nat→Rat}{K L:Rat}(h:AbS a K)(k:AbS b L):AbS (fun n=>a n+b n) (K+L):=fun n=>(h n).add (k n)
theorem Near.mul{s t s' t':Nat→Rat}{K L:Rat}(h:Near s t)(k:Near s' t')(hs:AbS s' K)(ht:AbS t L):Near (fun n=>s n*s' n) (fun n=>t n*t' n):=fun e he=>by
  have K0:=(hs 0).nonneg
  have L0:=(ht 0).nonneg
  obtain ⟨d,d0,hd⟩:∃ d:Rat,0<d∧d*K+L*d≤e:=by
    have p:0<K+L+1:=by grind
    have i:=Rat.inv_pos.2 p
    have im:=Rat.mul_inv_cancel (K+L+1) (fun h=>by grind)
    refine ⟨e*(K+L+1)⁻¹,Rat.mul_pos he i,?_⟩
    have q:=Rat.mul_pos he i
    have:e*(K+L+1)⁻¹*(K+L+1)=e:=by grind
    grind
  obtain ⟨N,h1⟩:=h d d0
  obtain ⟨M,k1⟩:=k d d0
  refine ⟨max N M,fun n hn=>?_⟩
  have a1:=h1 n (by omega)
  have b1:=k1 n (by omega)
  have A:Ab (s n-t n) d:=⟨by grind,by grind⟩
  have B:Ab (s' n-t' n) d:=⟨by grind,by grind⟩
  have m:=(A.mul (hs n)).add ((ht n).mul B)
  have m:=(m.congr (show s n*s' n-t n*t' n=(s n-t n)*s' n+t n*(s' n-t' n) by grind)).mono hd
  exact ⟨by have:=m.2;grind,by have:=m.1;grind⟩
theorem Near.congr{s t s' t':Nat→Rat}(h:Near s t)(e:∀ n,s' n=s n)(k:∀ n,t' n=t n):Near s' t':=by
  rw [show s'=s from funext e,show t'=t from funext k];exact h
theorem cos_add_bd{s t:Rat}(hs:Ab s 2)(ht:Ab t 2)(n:Nat):Ab (cosS (s+t) n-(cosS s n*cosS t n-sinS s n*sinS t n)) ((n:Rat)*(1536*hf n)):=by
  have hA:=cosT_dec2 hs
  have hB:=cosT_dec2 ht
  have hC:=sinT_dec2 hs
  have hD:=sinT_dec2 ht
  have e:∀ n,cosS (s+t) (n+1)=sumTo (conv (cosT s) (cosT t)) (n+1)-sumTo (conv (sinT s) (sinT t)) n:=by
    intro n
    induction n with
    | zero =>
      show (0:Rat)+1*1=0+(0+1*1*(1*1))-0
      grind
    | succ n ih =>
      have h:=cosT_add s t n
      show cosS (s+t) (n+1)+cosT (s+t) (n+1)=(sumTo (conv (cosT s) (cosT t)) (n+1)+conv (cosT s) (cosT t) (n+1))-(sumTo (conv (sinT s) (sinT t)) n+conv (sinT s) (sinT t) n)
      rw [ih,h];grind
  cases n with
  | zero =>
    have z:cosS (s+t) 0-(cosS s 0*cosS t 0-sinS s 0*sinS t 0)=0:=by show (0:Rat)-(0*0-0*0)=0;grind
    rw [z];exact Ab.zero (rmN (cast_nonneg 0) (by have:=hf_nonneg 0;grind))
  | succ n =>
    have p1:=prod_near hA hB (n+1)
    have p2:=prod_near hC hD (n+1)
    have c:=conv_small hC hD n
    have q:=hf_succ n
    have u:sumTo (conv (sinT s) (sinT t)) (n+1)=sumTo (conv (sinT s) (sinT t)) n+conv (sinT s) (sinT t) n:=rfl
    have v1:cosS s (n+1)=sumTo (cosT s) (n+1):=rfl
    have v2:cosS t (n+1)=sumTo (cosT t) (n+1):=rfl
    have v3:sinS s (n+1)=sumTo (sinT s) (n+1):=rfl
    have v4:sinS t (n+1)=sumTo (sinT t) (n+1):=rfl
    rw [e n,v1,v2,v3,v4]
    have r:((n+1:Nat):Rat)*(16*16*hf n)=((n+1:Nat):Rat)*(512*hf (n+1)):=by rw [q];grind
    rw [r] at c
    exact ⟨by grind,by grind⟩
theorem sin_add_bd{s t:Rat}(hs:Ab s 2)(ht:Ab t 2)(n:Nat):Ab (sinS (s+t) n-(cosS s n*sinS t n+sinS s n*cosS t n)) ((n:Rat)*(1536*hf n)):=by
  have p1:=prod_near (cosT_dec2 hs) (sinT_dec2 ht) n
  have p2:=prod_near (sinT_dec2 hs) (cosT_dec2 ht) n
  have e:sinS (s+t) n=sumTo (conv (cosT s) (sinT t)) n+sumTo (conv (sinT s) (cosT t)) n:=by
    rw [←sumTo_add];exact sumTo_congr fun i _=>sinT_add s t i
  have v1:cosS s n=sumTo (cosT s) n:=rfl
  have v2:cosS t n=sumTo (cosT t) n:=rfl
  have v3:sinS s n=sumTo (sinT s) n:=rfl
  have v4:sinS t n=sumTo (sinT t) n:=rfl
  have p:=rmN (cast_nonneg n) (hf_nonneg n)
  rw [e,v1,v2,v3,v4]
  exact ⟨by grind,by grind⟩
theorem near_bdQ{s t:Nat→Rat}{K:Rat}(h:∀ n,Ab (s n-t n) ((n:Rat)*(K*hf n))):Near s t:=near_of_bound (K:=K) fun n=>⟨(h n).2,(h n).1⟩
section
variable {a b:Nat→Rat} (ha:AbS a 2) (hb:AbS b 2)
include ha hb
theorem sinQ_add:Near (sinQ fun n=>a n+b n) (fun n=>cosQ a n*sinQ b n+sinQ a n*cosQ b n):=near_bdQ fun n=>sin_add_bd (ha n) (hb n) n
theorem cosQ_add:Near (cosQ fun n=>a n+b n) (fun n=>cosQ a n*cosQ b n-sinQ a n*sinQ b n):=near_bdQ fun n=>cos_add_bd (ha n) (hb n) n
end
theorem sinQ_neg(a:Nat→Rat)(n:Nat):sinQ (fun n=>-a n) n = -sinQ a n:=sinS_neg (a n) n
theorem cosQ_neg(a:Nat→Rat)(n:Nat):cosQ (fun n=>-a n) n=cosQ a n:=cosS_neg (a n) n
theorem AbS.neg{a:Nat→Rat}{K:Rat}(h:AbS a K):AbS (fun n=>-a n) K:=fun n=>(h n).neg
theorem circleQ{a:Nat→Rat}(ha:AbS a 2):Near (fun n=>cosQ a n*cosQ a n+sinQ a n*sinQ a n) (fun _=>1):=by
  have h:=cosQ_add ha ha.neg
  have h1:Near (cosQ fun n=>a n + -a n) (fun _=>1):=Near.of_eq 1 fun n hn=>by
    obtain ⟨k,rfl⟩:∃ k,n=k+1:=⟨n-1,by omega⟩
    show cosS (a (k+1) + -a (k+1)) (k+1)=1
    rw [Rat.add_neg_cancel,cosS_zero]
  refine Near.trans (Near.of_eq 0 fun n _=>?_) (h.symm.trans h1)
  rw [cosQ_neg,sinQ_neg];grind
theorem apow_pw(n:Int):∀ k,apow n k=pw (n:Rat)⁻¹ (2*k+1)
  | 0=>by show (n:Rat)⁻¹=(n:Rat)⁻¹*1;grind
  | k+1=>by
    have ih:=apow_pw n k
    show apow n k*((n*n:Int):Rat)⁻¹=(n:Rat)⁻¹*((n:Rat)⁻¹*pw (n:Rat)⁻¹ (2*k+1))
    have iv:((n*n:Int):Rat)⁻¹=(n:Rat)⁻¹*(n:Rat)⁻¹:=by
      rw [rcM]
      by_cases h:(n:Rat)=0
      · rw [h];decide +kernel
      · have a:=Rat.mul_inv_cancel (n:Rat) h
        have b:=Rat.mul_inv_cancel ((n:Rat)*(n:Rat)) (fun k=>by rcases Rat.mul_eq_zero.1 k with k | k<;>exact h k)
        generalize ((n:Rat)*(n:Rat))⁻¹=X at *
        generalize (n:Rat)⁻¹=Y at *
        have:X=X*((n:Rat)*Y)*((n:Rat)*Y):=by rw [a];grind
        grind
    rw [ih,iv];grind
theorem at_pw(n:Int)(k:Nat):atT n k=qw (n:Rat)⁻¹ (2*k):=by
  unfold atT qw
  rw [apow_pw]
  have:((2*(k:Int)+1:Int):Rat)=((2*k+1:Nat):Rat):=by
    have h:(2*(k:Int)+1:Int)=((2*k+1:Nat):Int):=by omega
    rw [h];rfl
  rw [this]
theorem sgn_at(n:Int)(m:Nat):sgnS true (atT n) m=atS (n:Rat)⁻¹ m:=sumTo_congr fun k _=>by rw [at_pw];rfl
def qpS(n:Nat):Rat:=1/4*piS n
theorem fifth:Ab ((1:Rat)/5) (1/4)∧Ab ((1:Rat)/239) (1/4):=⟨⟨by decide +kernel,by decide +kernel⟩,⟨by decide +kernel,by decide +kernel⟩⟩
def at5:Nat→Rat:=atS (1/5)
def at239:Nat→Rat:=atS (1/239)
theorem at5_ab:AbS at5 (1/2):=fun n=>atS_ab fifth.1 n
theorem at239_ab:AbS at239 (1/2):=fun n=>atS_ab fifth.2 n
theorem qpS_eq(n:Nat):qpS n=(at5 n+at5 n+(at5 n+at5 n)) + -at239 n:=by
  unfold qpS piS at5 at239
  rw [sgn_at,sgn_at]
  have e1:((5:Int):Rat)⁻¹=1/5:=by decide +kernel
  have e2:((239:Int):Rat)⁻¹=1/239:=by decide +kernel
  rw [e1,e2];grind
theorem twice_tan{a c:Nat→Rat}{q r K:Rat}(ha:AbS a 2)(hc:AbS c K)(h1:Near (sinQ a) (fun n=>q*c n))(h2:Near (cosQ a) (fun n=>r*c n)) :
    Near (sinQ fun n=>a n+a n) (fun n=>2*q*r*(c n*c n))∧Near (cosQ fun n=>a n+a n) (fun n=>(r*r-q*q)*(c n*c n)):=by
  have L:∀ z:Rat,∃ L,AbS (fun n=>z*c n) L:=fun z=>⟨_,fun n=>(show Ab z (z*z+1) from ⟨by have:=sqN (z+1);have:=sqN z;grind,by have:=sqN (z-1);have:=sqN z;grind⟩).mul (hc n)⟩
  obtain ⟨L1,l1⟩:=L q
  obtain ⟨L2,l2⟩:=L r
  have m1:=h1.mul h2 ha.cos l1
  have m2:=h2.mul h2 ha.cos l2
  have m3:=h1.mul h1 ha.sin l1
  have n1:Near (fun n=>cosQ a n*sinQ a n+sinQ a n*cosQ a n) (fun n=>2*q*r*(c n*c n)):=(m1.add m1).congr (fun n=>by grind) (fun n=>by grind)
  have n2:Near (fun n=>cosQ a n*cosQ a n-sinQ a n*sinQ a n) (fun n=>(r*r-q*q)*(c n*c n)):=(m2.sub m3).congr (fun _=>rfl) (fun n=>by grind)
  exact ⟨(sinQ_add ha ha).trans n1,(cosQ_add ha ha).trans n2⟩
theorem qp_like:Near (sinQ qpS) (cosQ qpS):=by
  have A2:AbS (fun n=>at5 n+at5 n) 1:=(at5_ab.add at5_ab).mono (by decide +kernel)
  have A4:AbS (fun n=>at5 n+at5 n+(at5 n+at5 n)) 2:=(A2.add A2).mono (by decide +kernel)
  have B:=at239_ab.neg.mono (show (1:Rat)/2≤2 by decide +kernel)
  have t5:Near (sinQ at5) (fun n=>1/5*cosQ at5 n):=tan_at (by decide +kernel) (by decide +kernel)
  have t9:Near (sinQ at239) (fun n=>1/239*cosQ at239 n):=tan_at (by decide +kernel) (by decide +kernel)
  have c5:=(at5_ab.mono (show (1:Rat)/2≤2 by decide +kernel)).cos
  have c9:=(at239_ab.mono (show (1:Rat)/2≤2 by decide +kernel)).cos
  obtain ⟨u1,u2⟩:=twice_tan (at5_ab.mono (show (1:Rat)/2≤2 by decide +kernel)) c5 t5 ((Near.refl (cosQ at5)).congr (fun _=>rfl) (fun n=>(Rat.one_mul _)))
  obtain ⟨v1,v2⟩:=twice_tan (A2.mono (by decide +kernel)) (c5.mul c5) u1 u2
  have w1:Near (sinQ fun n=>-at239 n) (fun n=>-(1/239*cosQ at239 n)):=t9.neg.congr (fun n=>sinQ_neg at239 n) (fun _=>rfl)
  have w2:Near (cosQ fun n=>-at239 n) (cosQ at239):=(Near.refl _).congr (fun n=>cosQ_neg at239 n) (fun _=>rfl)
  have bB:=c5.mul c5
  have bC:=bB.mul bB
  have bq:∀ z:Rat,∃ L,AbS (fun n=>z*(cosQ at5 n*cosQ at5 n*(cosQ at5 n*cosQ at5 n))) L:=fun z=>⟨_,fun n=>(show Ab z (z*z+1) from ⟨by have:=sqN (z+1);have:=sqN z;grind,by have:=sqN (z-1);have:=sqN z;grind⟩).mul (bC n)⟩
  obtain ⟨L1,l1⟩:=bq (2*(2*(1/5)*1)*(1*1-1/5*(1/5)))
  obtain ⟨L2,l2⟩:=bq ((1*1-1/5*(1/5))*(1*1-1/5*(1/5))-2*(1/5)*1*(2*(1/5)*1))
  have e:qpS=fun n=>at5 n+at5 n+(at5 n+at5 n) + -at239 n:=funext qpS_eq
  have S:=sinQ_add A4 B
  have C:=cosQ_add A4 B
  rw [e]
  have S':=S.trans ((v2.mul w1 B.sin l2).add (v1.mul w2 B.cos l1))
  have C':=C.trans ((v2.mul w2 B.cos l2).sub (v1.mul w1 B.sin l1))
  refine S'.trans (Near.trans (Near.of_eq 0 fun n _=>?_) C'.symm)
  grind
theorem sgn_nonneg{n:Int}(hn:5≤n)(m:Nat):0≤sgnS true (atT n) m :=
  alt_sum_nonneg (D:=atT n) (fun k=>atT_nonneg (by omega) k) (fun k=>by have h:=atT_fall hn k;have p:=atT_nonneg (n:=n) (by omega) (k+1);grind) m
theorem at_nonneg(n:Nat):0≤at5 n∧0≤at239 n:=by
  have h1:=sgn_nonneg (n:=5) (by decide +kernel) n
  have h2:=sgn_nonneg (n:=239) (by decide +kernel) n
  rw [sgn_at] at h1 h2
  rw [show ((5:Int):Rat)⁻¹=1/5 by decide +kernel] at h1
  rw [show ((239:Int):Rat)⁻¹=1/239 by decide +kernel] at h2
  exact ⟨h1,h2⟩
theorem qp_ab:AbS qpS 2:=fun n=>by
  have e:=qpS_eq n
  obtain ⟨a1,a2⟩:=at5_ab n
  obtain ⟨b1,b2⟩:=at239_ab n
  obtain ⟨c1,c2⟩:=at_nonneg n
  rw [e]
  exact ⟨by grind,by grind⟩
theorem sin_lip{a c δ:Rat}(ha:Ab a 1)(hc:Ab c 1)(hd:Ab (a-c) δ)(d1:δ≤1)(n:Nat):Ab (sinS a n-sinS c n) (12*δ):=by
  have s:=sin_step hc (d:=a-c) (by rw [show c+(a-c)=a by grind];exact ha) n
  rw [show c+(a-c)=a by grind] at s
  have q:=hd.sq
  have m:=hd.mul (cos_ab hc n)
  have d0:=hd.nonneg
  have dd:=rmL d1 d0
  exact ((s.add m).congr (by grind)).mono (by grind)
theorem cos_lip{a c δ:Rat}(ha:Ab a 1)(hc:Ab c 1)(hd:Ab (a-c) δ)(d1:δ≤1)(n:Nat):Ab (cosS a n-cosS c n) (12*δ+4*hf n):=by
  have s:=cos_step hc (d:=a-c) (by rw [show c+(a-c)=a by grind];exact ha) n
  rw [show c+(a-c)=a by grind] at s
  have q:=hd.sq
  have m:=hd.mul (sin_ab hc n)
  have d0:=hd.nonneg
  have dd:=rmL d1 d0
  exact ((s.sub m).congr (by grind)).mono (by grind)
theorem tail_ab{b:Nat→Rat}(h:∀ i,Ab (b i) (2*hf i)){n m:Nat}(k:n≤m):Ab (sumTo b m-sumTo b n) (4*hf n):=by
  have:=Dec.tail_le (B:=2) (b:=b) h k
  exact ⟨by grind,by grind⟩
theorem sin_tail{a:Rat}(ha:Ab a 1){n m:Nat}(k:n≤m):Ab (sinS a m-sinS a n) (4*hf n) :=
  tail_ab (fun i=>((dpw_ab ha (2*i+1)).alt i).mono (by have:=hf_mono3 i;grind)) k
theorem cos_tail{a:Rat}(ha:Ab a 1){n m:Nat}(k:n≤m):Ab (cosS a m-cosS a n) (4*hf n) :=
  tail_ab (fun i=>((dpw_ab ha (2*i)).alt i).mono (by have:=hf_mono2 i;grind)) k
theorem hf_small{e:Rat}(he:0<e):∃ N,∀ n,N≤n→16*hf n≤e:=by
  obtain ⟨M,hM⟩:=nhf_small 16 e he
  refine ⟨M+1,fun n hn=>?_⟩
  obtain ⟨m,rfl⟩:∃ m,n=m+1:=⟨n-1,by omega⟩
  exact of_nhf (by decide +kernel) (hM (m+1) (by omega))
theorem enc_along{f:Rat→Nat→Rat}(lip:∀ a c δ:Rat,Ab a 1→Ab c 1→Ab (a-c) δ→δ≤1→∀ n,Ab (f a n-f c n) (12*δ+4*hf n))(tail:∀ a:Rat,Ab a 1→∀ n m,n≤m→Ab (f a m-f a n) (4*hf n))
    {a:Nat→Rat} {lo hi L H:Rat} (ha:Enc a lo hi) (l:-(9/10)≤lo) (h:hi≤9/10) (hs:∀ x,lo≤x→x≤hi→Enc (f x) L H):Enc (fun n=>f (a n) n) L H:=fun e he=>by
  have le:=ha.self
  obtain ⟨δ,d0,d1,d2⟩:∃ δ:Rat,0<δ∧δ≤1/10∧48*δ≤e:=by
    by_cases c:e≤1
    · exact ⟨e/48,by grind,by grind,by grind⟩
    · exact ⟨1/48,by grind,by grind,by grind⟩
  obtain ⟨N,hN⟩:=ha δ d0
  obtain ⟨M,hM⟩:=hf_small (e:=e/2) (by grind)
  refine ⟨max N M,fun n hn=>?_⟩
  have h1:=hN n (by omega)
  have h2:=hM n (by omega)
  obtain ⟨c,c1,c2,c3⟩:∃ c,lo≤c∧c≤hi∧Ab (a n-c) δ:=by
    by_cases k:a n<lo
    · exact ⟨lo,Rat.le_refl,le,by grind,by grind⟩
    · by_cases k':hi<a n
      · exact ⟨hi,le,Rat.le_refl,by grind,by grind⟩
      · exact ⟨a n,by grind,by grind,by grind,by grind⟩
  have cb:Ab c 1:=⟨by grind,by grind⟩
  have ab:Ab (a n) 1:=⟨by grind,by grind⟩
  obtain ⟨K,hK⟩:=hs c c1 c2 (e/4) (by grind)
  have t:=tail c cb n (max n K) (by omega)
  have u:=hK (max n K) (by omega)
  have v:=lip (a n) c δ ab cb c3 (by grind) n
  obtain ⟨t1,t2⟩:=t
  obtain ⟨v1,v2⟩:=v
  exact ⟨by grind,by grind⟩
theorem enc_sinQ{a:Nat→Rat}{lo hi L H:Rat}(ha:Enc a lo hi)(l:-(9/10)≤lo)(h:hi≤9/10)(hs:∀ x,lo≤x→x≤hi→Enc (sinS x) L H):Enc (sinQ a) L H :=
  enc_along (f:=sinS) (fun a c δ ha hc hd d1 n=>(sin_lip ha hc hd d1 n).mono (by have:=hf_nonneg n;grind)) (fun _ ha _ _ k=>sin_tail ha k) ha l h hs
theorem enc_cosQ{a:Nat→Rat}{lo hi L H:Rat}(ha:Enc a lo hi)(l:-(9/10)≤lo)(h:hi≤9/10)(hs:∀ x,lo≤x→x≤hi→Enc (cosS x) L H):Enc (cosQ a) L H :=
  enc_along (f:=cosS) (fun a c δ ha hc hd d1 n=>cos_lip ha hc hd d1 n) (fun _ ha _ _ k=>cos_tail ha k) ha l h hs
def htS(r:Rat)(n:Nat):Rat:=r*piS n
def EvB(a:Nat→Rat)(K:Rat):Prop:=∃ N,∀ n,N≤n→Ab (a n) K
def cutS(N:Nat)(a:Nat→Rat)(n:Nat):Rat:=if n<N then 0 else a n
theorem cutS_ab{N:Nat}{a:Nat→Rat}{K:Rat}(K0:0≤K)(h:∀ n,N≤n→Ab (a n) K):AbS (cutS N a) K:=fun n=>by
  unfold cutS
  split
  · exact Ab.zero K0
  · exact h n (by omega)
theorem cutS_eq{N:Nat}(a:Nat→Rat){n:Nat}(h:N≤n):cutS N a n=a n:=if_neg (by omega)
section
variable {a b:Nat→Rat} (ha:EvB a 2) (hb:EvB b 2)
include ha hb
theorem addE:Near (sinQ fun n=>a n+b n) (fun n=>cosQ a n*sinQ b n+sinQ a n*cosQ b n)∧Near (cosQ fun n=>a n+b n) (fun n=>cosQ a n*cosQ b n-sinQ a n*sinQ b n):=by
  obtain ⟨N,hN⟩:=ha
  obtain ⟨M,hM⟩:=hb
  have h1:=sinQ_add (cutS_ab (by decide +kernel) hN) (cutS_ab (by decide +kernel) hM)
  have h2:=cosQ_add (cutS_ab (by decide +kernel) hN) (cutS_ab (by decide +kernel) hM)
  have e:∀ n,max N M≤n→cutS N a n=a n∧cutS M b n=b n:=fun n hn=>⟨cutS_eq a (by omega),cutS_eq b (by omega)⟩
  refine ⟨((Near.of_eq (max N M) fun n hn=>?_).trans h1).trans (Near.of_eq (max N M) fun n hn=>?_),((Near.of_eq (max N M) fun n hn=>?_).trans h2).trans (Near.of_eq (max N M) fun n hn=>?_)⟩<;>simp only [sinQ,cosQ,(e n hn).1,(e n hn).2]
end
theorem piS_ev:∃ N,∀ n,N≤n→3≤piS n∧piS n≤16/5:=by
  obtain ⟨N,hN⟩:=piS_enc (1/100) (by decide +kernel)
  exact ⟨N,fun n hn=>by have:=hN n hn;grind⟩
theorem ht_ev{r:Rat}(h1:-(1/2)≤r)(h2:r≤1/2):EvB (htS r) 2:=by
  obtain ⟨N,hN⟩:=piS_ev
  refine ⟨N,fun n hn=>?_⟩
  obtain ⟨a,b⟩:=hN n hn
  have m:=(show Ab r (1/2) from ⟨h1,h2⟩).mul (show Ab (piS n) (16/5) from ⟨by grind,b⟩)
  exact m.mono (by decide +kernel)
theorem half_turn:Near (sinQ (htS (1/2))) (fun _=>1)∧Near (cosQ (htS (1/2))) (fun _=>0):=by
  have e:htS (1/2)=fun n=>qpS n+qpS n:=funext fun n=>by unfold htS qpS;grind
  have q:=qp_ab
  have s:=sinQ_add q q
  have c:=cosQ_add q q
  have ci:=circleQ q
  have l:=qp_like
  have m1:=l.mul (Near.refl (sinQ qpS)) q.sin q.cos
  have m2:=(Near.refl (cosQ qpS)).mul l.symm q.cos q.cos
  rw [e]
  have z1:Near (fun n=>cosQ qpS n*sinQ qpS n+sinQ qpS n*cosQ qpS n) (fun _=>1):=((m2.add m1).symm.trans ci).congr (fun n=>by grind) (fun _=>rfl)
  have z2:Near (fun n=>cosQ qpS n*cosQ qpS n-sinQ qpS n*sinQ qpS n) (fun _=>0):=(m2.sub m1).congr (fun _=>rfl) (fun n=>by grind)
  exact ⟨s.trans z1,c.trans z2⟩
def cu(n:Int):Rat:=if n % 4=0 then 1 else if n % 4=2 then -1 else 0
def su(n:Int):Rat:=if n % 4=1 then 1 else if n % 4=3 then -1 else 0
theorem enc_less{s t:Nat→Rat}{v u:Vx}{w:Int}(hv:v.P)(hu:u.P)(hw:1≤w)(h:Enc s v.lo.rv v.hi.rv)(k:Enc t u.lo.rv u.hi.rv):Enc (fun n=>s n-t n) (lessV v u w).lo.rv (lessV v u w).hi.rv:=by
  obtain ⟨l,g⟩:=less_best (p:=w) hv hu hw
  have a:=h.add k.neg
  have e:(fun n=>s n + -t n)=fun n=>s n-t n:=funext fun n=>(Rat.sub_eq_add_neg _ _).symm
  rw [e] at a
  exact a.wide (by have:=l.2.1;grind) (by have:=g.2.1;grind)
def tyFd:TyRow:=⟨77,3,true,[.bool false,.int .i64 0,.int .u64 0],.struct [(0,1,false),(1,1,false),(2,1,false)]⟩
def tysF:List TyRow:=tyFd :: tysU
theorem tysF_ok:RowsOk Tryz.prog tysF:=⟨by kernel_rfl,tysU_ok⟩
def splX(n:Bool)(e f:Int):Tv:=.sv (.agg [.bool n,.int .i64 e,.int .u64 f])
def rhS(x:Rat)(n:Int)(i:Nat):Rat:=x-(n:Rat)*(1/2*piS i)
structure QNum (x:Dx) (p:Int) (R:Vx) (n:Int):Prop where
  enc:Enc (rhS x.rv n) R.lo.rv R.hi.rv
  q:R.P
  v:VN (p2 (-p)) R
  r:rightV R=true
  lo:-(9/10)≤R.lo.rv
  hi:R.hi.rv≤9/10
  near:x.rv=0∧n=0∨∃ w,8≤w∧w≤8192∧∀ c,InV (halfP w) c→NearI n (x.rv*c⁻¹)
theorem half_enc{d:Rat}{h:Vx}(k:HfIv d h):Enc (fun i=>1/2*piS i) h.lo.rv h.hi.rv:=(k.enc.scale (c:=1/2) (by decide +kernel)).wide (by grind) (by grind)
theorem rest_enc{h:Vx}{d:Rat}(k:HfIv d h){x:Dx}(hx:0≤x.m){w:Int}(hw:1≤w):Enc (rhS x.rv (nI h x w)) (restW h x w).lo.rv (restW h x w).hi.rv:=by
  have np:0≤(nW h x w).m:=nearD_p
  have a:=enc_point hx
  have b:=enc_point np
  have c:=enc_times (p:=w+64) (pointV_p (nW h x w)) k.p (by omega) b (half_enc k)
  have e:=enc_less (w:=w) (pointV_p x) (trimV_p (prodV (pointV (nW h x w)) h) (w+64)) hw a c
  have en:(nW h x w).rv=(nI h x w:Rat):=(wholeS_rv (d:=nW h x w) nearD_e).symm
  rw [en] at e
  exact e
theorem vn_wide{p:Int}{R:Vx}{z:Rat}(v:VN (p2 (-p)) R)(hp:8≤p)(i:InV R z)(z1:-(4/5)≤z)(z2:z≤4/5):-(9/10)≤R.lo.rv∧R.hi.rv≤9/10:=by
  have e:p2 (-p)≤1/16:=by
    have:=p2_le (show -p≤-4 by omega)
    have e:p2 (-4)=1/16:=by decide +kernel
    rw [e] at this;exact this
  obtain ⟨i1,i2⟩:=i
  rcases v with ⟨a,b⟩|⟨a,b,c⟩|⟨a,b,c⟩
  · rw [a,b];exact ⟨by decide +kernel,by decide +kernel⟩
  · have m:=rmR e (rlL a)
    exact ⟨by grind,by grind⟩
  · have m:=rmR e (rlL a)
    exact ⟨by grind,by grind⟩
theorem quar_num{x:Dx}(hx:0≤x.m){p:Int}(h:(quarR x p).2.2=0):∃ n:Int,(quarR x p).1=n % 4∧QNum x p (quarR x p).2.1 n:=by
  have fy:OneF (oneD x):=oneD_f hx
  have ey:(oneD x).rv=x.rv:=rv_one hx
  have z0:zeroIv.lo.rv=0:=zero_rv
  have z1:zeroIv.hi.rv=0:=zero_rv
  have cq:=cq_of h
  rcases quar_cases x p with ⟨c,_⟩|⟨_,z,q⟩|⟨_,z,t,q⟩|⟨_,z,t,q⟩|⟨_,z,t,w,q⟩
  · exact absurd cq c
  · have x0:x.rv=0:=by rw [←ey];exact rv_zero z
    rw [q]
    refine ⟨0,rfl,?_,⟨Int.le_refl _,Int.le_refl _⟩,.inl ⟨z0,z1⟩,zero_right,by rw [z0];decide +kernel,by rw [z1];decide +kernel,.inl ⟨x0,rfl⟩⟩
    have e:rhS x.rv 0=fun _=>0:=funext fun i=>by
      unfold rhS;rw [x0]
      have:((0:Int):Rat)=0:=rfl
      rw [this];grind
    show Enc (rhS x.rv 0) zeroIv.lo.rv zeroIv.hi.rv
    rw [e,z0,z1];exact Enc.const 0
  · rw [q] at h;cases h
  · rw [q] at h;cases h
  · have hf:=halfP_hf q.w0 (show w≤65000 by have:=q.w1;omega)
    have w1:1≤w:=by have:=q.w0;omega
    have rp:(restW (halfP w) (oneD x) w).P:=⟨cutD_p,cutD_p⟩
    have c2:=cq.2.1
    have nb:narrowB (restW (halfP w) (oneD x) w) p=true:=by
      rw [narrowB,q.right,q.nar,leI_true.2 (show 0≤p by omega)];rfl
    have vn:=nar_of_narrow rp nb
    obtain ⟨cc,dc,_,d1,d2⟩:=hf.common hf
    have n1:=sure_near hf fy.p w1 q.sure dc
    have r1:=rest_in hf fy.p w1 dc
    rw [ey] at n1 r1
    have m1:=hf.enc.meets piS_enc
    have m2:=hf.nar
    have m3:p2 (-3-w)≤1/100:=by
      have:=p2_le (show -3-w≤-7 by have:=q.w0;omega)
      have e:p2 (-7)=1/128:=by decide +kernel
      rw [e] at this;grind
    have m4:cc≤8/5:=by have:=dc.2;grind
    obtain ⟨b1,b2⟩:=near_bd2 d1 m4 n1 rfl
    obtain ⟨g1,g2⟩:=vn_wide vn c2 r1 b1 b2
    have en:=rest_enc hf fy.p w1
    rw [ey] at en
    rw [q.eq]
    exact ⟨nI (halfP w) (oneD x) w,rfl,en,rp,vn,q.right,g1,g2,.inr ⟨w,q.w0,q.w1,fun c hc=>by have:=sure_near hf fy.p w1 q.sure hc;rwa [ey] at this⟩⟩
def eP(b:Vx×Vx):Prop:=(eB 4611686018427387904 b.1.lo∧eB 4611686018427387904 b.1.hi)∧eB 4611686018427387904 b.2.lo∧eB 4611686018427387904 b.2.hi
theorem tr0(b:Vx×Vx):turnP 0 b=b:=by rw [turnP,if_neg (by decide),if_neg (by decide),if_neg (by decide)]
theorem QNum.ev{x:Dx}{p n:Int}{R:Vx}(h:QNum x p R n):EvB (rhS x.rv n) 2:=by
  obtain ⟨N,hN⟩:=h.enc 1 (by decide +kernel)
  have h1:=h.lo
  have h2:=h.hi
  exact ⟨N,fun n hn=>by have:=hN n hn;exact ⟨by grind,by grind⟩⟩
def sgS(a:Nat→Rat)(n:Int)(i:Nat):Rat:=sinQ a i*cu n+cosQ a i*su n
def kpS(a:Nat→Rat)(n:Int)(i:Nat):Rat:=cosQ a i*cu n-sinQ a i*su n
theorem right_moreS{a c:Nat→Rat}(ha:EvB a 2){j:Int}(hj:-1≤j∧j≤1)(e:∀ i,c i=a i+(j:Rat)*htS (1/2) i):Near (sinQ c) (sgS a j)∧Near (cosQ c) (kpS a j):=by
  obtain ⟨t1,t2⟩:=half_turn
  obtain ⟨R,hR⟩:=ha
  have bs:AbS (sinQ (cutS R a)) 32:=AbS.sin (cutS_ab (by decide +kernel) hR)
  have bc:AbS (cosQ (cutS R a)) 32:=AbS.cos (cutS_ab (by decide +kernel) hR)
  have qs:∀ n,R≤n→sinQ (cutS R a) n=sinQ a n:=fun n hn=>by unfold sinQ;rw [cutS_eq _ hn]
  have qc:∀ n,R≤n→cosQ (cutS R a) n=cosQ a n:=fun n hn=>by unfold cosQ;rw [cutS_eq _ hn]
  have es:Near (sinQ (cutS R a)) (sinQ a):=Near.of_eq R qs
  have ec:Near (cosQ (cutS R a)) (cosQ a):=Near.of_eq R qc
  have key:∀ (b:Nat→Rat) (u v:Rat),Ab u 1→Ab v 1→EvB b 2→Near (sinQ b) (fun _=>v)→Near (cosQ b) (fun _=>u)→Near (sinQ fun n=>a n+b n) (fun i=>sinQ a i*u+cosQ a i*v)∧Near (cosQ fun n=>a n+b n) (fun i=>cosQ a i*u-sinQ a i*v):=by
    intro b u v hu hv hb s c
    obtain ⟨a1,a2⟩:=addE ⟨R,hR⟩ hb
    have fu:AbS (fun _=>u) 1:=fun _=>hu
    have fv:AbS (fun _=>v) 1:=fun _=>hv
    have x1:Near (fun i=>cosQ a i*sinQ b i) (fun i=>cosQ a i*v):=(Near.of_eq R fun n hn=>by rw [←qc n hn];grind).trans ((s.mul ec bc fv).congr (fun _=>rfl) (fun n=>by grind))
    have x2:Near (fun i=>sinQ a i*cosQ b i) (fun i=>sinQ a i*u):=(Near.of_eq R fun n hn=>by rw [←qs n hn];grind).trans ((c.mul es bs fu).congr (fun _=>rfl) (fun n=>by grind))
    have x3:Near (fun i=>cosQ a i*cosQ b i) (fun i=>cosQ a i*u):=(Near.of_eq R fun n hn=>by rw [←qc n hn];grind).trans ((c.mul ec bc fu).congr (fun _=>rfl) (fun n=>by grind))
    have x4:Near (fun i=>sinQ a i*sinQ b i) (fun i=>sinQ a i*v):=(Near.of_eq R fun n hn=>by rw [←qs n hn];grind).trans ((s.mul es bs fv).congr (fun _=>rfl) (fun n=>by grind))
    exact ⟨a1.trans ((x1.add x2).congr (fun _=>rfl) (fun i=>by grind)),a2.trans ((x3.sub x4).congr (fun _=>rfl) (fun i=>rfl))⟩
  have a0:Ab (0:Rat) 1:=⟨by decide +kernel,by decide +kernel⟩
  have a1:Ab (1:Rat) 1:=⟨by decide +kernel,by decide +kernel⟩
  have am:Ab (-1:Rat) 1:=⟨by decide +kernel,by decide +kernel⟩
  unfold sgS kpS
  rcases (show j=0∨j=1∨j = -1 by omega) with rfl | rfl | rfl
  · have eq:c=a:=funext fun i=>by rw [e i];have:((0:Int):Rat)=0:=rfl;rw [this];grind
    rw [eq,show cu 0=1 by decide +kernel,show su 0=0 by decide +kernel]
    exact ⟨Near.of_eq 0 fun n _=>by grind,Near.of_eq 0 fun n _=>by grind⟩
  · have eq:c=fun n=>a n+htS (1/2) n:=funext fun n=>by
      have:((1:Int):Rat)=1:=rfl
      rw [e n,this];grind
    rw [eq,show cu 1=0 by decide +kernel,show su 1=1 by decide +kernel]
    exact key _ 0 1 a0 a1 (ht_ev (by decide +kernel) (by decide +kernel)) t1 t2
  · have eq:c=fun n=>a n + -htS (1/2) n:=funext fun n=>by
      have:((-1:Int):Rat) = -1:=rfl
      rw [e n,this];grind
    rw [eq,show cu (-1)=0 by decide +kernel,show su (-1) = -1 by decide +kernel]
    obtain ⟨M,hM⟩:=ht_ev (r:=1/2) (by decide +kernel) (by decide +kernel)
    exact key (fun n=>-htS (1/2) n) 0 (-1) a0 am ⟨M,fun n hn=>(hM n hn).neg⟩ (t1.neg.congr (fun n=>sinQ_neg _ n) (fun _=>rfl)) (t2.congr (fun n=>cosQ_neg _ n) (fun _=>rfl))
def uT(n:Int):Tv:=.sv (.one (.int .u64 n))
theorem pAm_vc(x:Int)(Q:Tv→Prop):execF ⟨tysF,[]⟩ (fun _=>none) 0 Tryz.f46 [.one (.int .u64 x)] Q=(Q (Tv.sv (Sv.one (At.int .u64 (bitsI BinOp.andNot IntKind.u64 x 9223372036854775808))))):=by kernel_rfl
def pAm:Spec:=specK [.i .u64] fun (x:Int)=>(none,uT (bitsI .andNot .u64 x 9223372036854775808))
theorem pNu_vc(x:Int)(Q:Tv→Prop):execF ⟨tysF,[(46,pAm)]⟩ (fun _=>none) 0 Tryz.f45 [.one (.int .u64 x)] Q=(Q (bT (leI (bitsI BinOp.andNot IntKind.u64 x 9223372036854775808) 9218868437227405312))):=by kernel_rfl
def pNu:Spec:=specK [.i .u64] fun (x:Int)=>(none,bT (leI (bitsI .andNot .u64 x 9223372036854775808) 9218868437227405312))
theorem pUp_vc  (Q:Tv→Prop):execF ⟨tysF,[(46,pAm),(45,pNu)]⟩ (fun _=>none) 0 Tryz.f18 [.one (.int .u64 9223372036854775808)] Q=(Q (Tv.sv (Sv.one (At.int .u64 1)))):=by kernel_rfl
def pUp:Spec:=specK [.i .u64] fun (x:Int)=>(some (x=9223372036854775808),uT 1)
theorem pSp_vc  (Q:Tv→Prop):execF ⟨tysF,[]⟩ (fun _=>none) 0 Tryz.f47 [.one (.int .u64 9218868437227405312)] Q=((0:Int)≤52∧Q (Tv.sv (Sv.agg [At.bool (neI (bitsI BinOp.and IntKind.u64 9218868437227405312 9223372036854775808) 0),At.int .i64 (IntKind.wrap IntKind.i64 (bitsI BinOp.and IntKind.u64 (shrI IntKind.u64 9218868437227405312 52) 2047)),At.int .u64 (bitsI BinOp.and IntKind.u64 9218868437227405312 4503599627370495)]))):=by kernel_rfl
def pSp:Spec:=specK [.i .u64] fun (x:Int)=>(some (x=9218868437227405312),splX false 2047 0)
def tyCk:TyRow:=⟨50,1,false,[.int .u8 0],.int .u8⟩
theorem pCl_vc  (Q:Tv→Prop):execF ⟨tyCk :: tysF,[(47,pSp)]⟩ (fun _=>none) 0 Tryz.f19 [.one (.int .u64 9218868437227405312)] Q=((9218868437227405312:Int)=(9218868437227405312:Int)∧Q (Tv.sv (Sv.one (At.int .u8 4)))):=by kernel_rfl
def wPar:Spec:=fun l=>match l with
  | [.one (.lit v)]=>(some (v = .string ⟨twoL.toArray⟩),.tup [.one (.int .u8 17),.one (.int .i64 0)])
  | _=>noSpec
def pCl:Spec:=specK [.i .u64] fun (x:Int)=>(some (x=9218868437227405312),.sv (.one (.int .u8 4)))
def sBgt:List (FuncId×Spec):=[(17,wPar),(18,pUp),(19,pCl)]
theorem lBgt_vc(Q:Tv→Prop):execF ⟨tysF,sBgt⟩ (fun _=>none) 0 Tryz.f4 [] Q=(Value.string ⟨twoL.toArray⟩=Value.string ⟨twoL.toArray⟩∧(9223372036854775808:Int)=9223372036854775808∧(9218868437227405312:Int)=9218868437227405312∧Q (bT (eqI 17 17))):=by kernel_rfl
theorem lSt_vc(v:Vx)(w:Int)(Q:Tv→Prop):execF ⟨tys4,sG3⟩ (fun _=>none) 0 Tryz.f10 [.agg (ivL false v),.one (.int .i64 w)] Q=(br (eqI w 0) (br (!rightV v) (Q (Tv.tup [Sv.agg [At.bool false,At.words true [],At.int .i64 0,At.bool false,At.words true [],At.int .i64 0],Sv.one (At.int .i64 6)])) (Q (Tv.tup [Sv.agg (ivL false v),Sv.one (At.int .i64 w)]))) (Q (Tv.tup [Sv.agg (ivL false v),Sv.one (At.int .i64 w)]))):=by kernel_rfl
def wSt:Spec:=specK [.v,.i .i64] fun (v:Vx) (w:Int)=>(none,reT (sndR v w))
theorem lSs_vc(v u:Vx)(w:Int)(Q:Tv→Prop):execF ⟨tys4,sG3⟩ (fun _=>none) 0 Tryz.f13 [.agg (ivL false v),.agg (ivL false u),.one (.int .i64 w)] Q=(br (eqI w 0) (br (!rightV v) (Q (Tv.tup [Sv.agg [At.bool false,At.words true [],At.int .i64 0,At.bool false,At.words true [],At.int .i64 0],Sv.agg [At.bool false,At.words true [],At.int .i64 0,At.bool false,At.words true [],At.int .i64 0],Sv.one (At.int .i64 6)])) (br (!rightV u) (Q (Tv.tup [Sv.agg [At.bool false,At.words true [],At.int .i64 0,At.bool false,At.words true [],At.int .i64 0],Sv.agg [At.bool false,At.words true [],At.int .i64 0,At.bool false,At.words true [],At.int .i64 0],Sv.one (At.int .i64 6)])) (true=true∧Q (Tv.tup [Sv.agg (ivL false v),Sv.agg (ivL false u),Sv.one (At.int .i64 w)])))) (true=true∧Q (Tv.tup [Sv.agg (ivL false v),Sv.agg (ivL false u),Sv.one (At.int .i64 w)]))):=by kernel_rfl
def sndsR(r:(Vx×Vx)×Int):(Vx×Vx)×Int:=if r.2=0∧(rightV r.1.1=false∨rightV r.1.2=false) then ((zeroIv,zeroIv),6) else r
def wSs:Spec:=specK [.v,.v,.i .i64] fun (v:Vx) (u:Vx) (w:Int)=>(none,reT2 (sndsR ((v,u),w)))
def sTr(qf:Dx→Int→Int×Vx×Int)(sf cf:Dx→Int→Vx×Int)(bf:Vx→Int→(Vx×Vx)×Int)(sd:Vx→Int→Vx×Int)(ss:(Vx×Vx)×Int→(Vx×Vx)×Int)(pf:Int→Vx)(fC:Vx→Int→Vx)(fO:Dx→Dx→Int)(fN:Dx→Dx)(fM:Vx→Vx→Bool)(fG:Vx→Vx):List (FuncId×Spec):=[(4,wTrue),(5,specK [.d,.i .i64] fun (x:Dx) (p:Int)=>(none,quT (qf x p))),(11,specK [.d,.i .i64] fun (x:Dx) (p:Int)=>(none,reT (sf x p))),(12,specK [.d,.i .i64] fun (x:Dx) (p:Int)=>(none,reT (cf x p))),(14,specK [.v,.i .i64] fun (v:Vx) (p:Int)=>(none,reT2 (bf v p))),(10,specK [.v,.i .i64] fun (v:Vx) (w:Int)=>(none,reT (sd v w))),(13,specK [.v,.v,.i .i64] fun (v:Vx) (u:Vx) (w:Int)=>(none,reT2 (ss ((v,u),w)))),(6,specK [.i .i64] fun (w:Int)=>(some (32≤w∧w≤65536),vT (pf w))),(7,specK [.v,.i .i64] fun (v:Vx) (n:Int)=>(some (eB 2305843009213693952 v.lo∧eB 2305843009213693952 v.hi∧-2305843009213693952≤n∧n≤2305843009213693952),vT (fC v n))),(8,specK [.d,.d] fun (a:Dx) (b:Dx)=>(some (a.Sm 34359738368∧b.Sm 34359738368),iT (fO a b))),(9,specK [.d] fun (d:Dx)=>(some (eB 4611686018427387904 d),dT (fN d))),(15,specK [.v,.v] fun (v:Vx) (u:Vx)=>(none,bT (fM v u))),(16,specK [.v] fun (v:Vx)=>(some (eB 4611686018427387904 v.lo∧eB 4611686018427387904 v.hi),vT (fG v)))]
theorem lTr_vc(x:Dx)(p:Int)(qf:Dx→Int→Int×Vx×Int)(sf cf:Dx→Int→Vx×Int)(bf:Vx→Int→(Vx×Vx)×Int)(sd:Vx→Int→Vx×Int)(ss:(Vx×Vx)×Int→(Vx×Vx)×Int)(pf:Int→Vx)(fC:Vx→Int→Vx)(fO:Dx→Dx→Int)(fN:Dx→Dx)(fM:Vx→Vx→Bool)(fG:Vx→Vx)(Q:Tv→Prop):execF ⟨tys4,sTr qf sf cf bf sd ss pf fC fO fN fM fG⟩ (fun _=>none) 0 Tryz.f3 [.agg (dyL false x),.one (.int .i64 p)] Q=(br (neI (qf x p).snd.snd 0) (br (neI (qf x p).snd.snd 0) (Q (bT true)) (Q (bT (ltI 2000 p)))) (br (ltI 2000 p) (br (neI (qf x p).snd.snd 0) (Q (bT true)) (Q (bT (ltI 2000 p)))) (((32:Int)≤300∧(300:Int)≤65536)∧(eB 2305843009213693952 (pf 300).lo∧eB 2305843009213693952 (pf 300).hi∧(-2305843009213693952:Int)≤(-2)∧(-2:Int)≤2305843009213693952)∧br (ltI (qf x p).fst 0) (true=true∧Q (bT false)) (br (ltI 3 (qf x p).fst) (true=true∧Q (bT false)) ((Dx.Sm 34359738368 (qf x p).snd.fst.lo∧Dx.Sm 34359738368 (fC (pf 300) (-2)).hi)∧br (ltI 0 (fO (qf x p).snd.fst.lo (fC (pf 300) (-2)).hi)) (true=true∧Q (bT false)) (eB 4611686018427387904 (fC (pf 300) (-2)).hi∧(Dx.Sm 34359738368 (fN (fC (pf 300) (-2)).hi)∧Dx.Sm 34359738368 (qf x p).snd.fst.hi)∧true=true∧br (ltI 0 (fO (fN (fC (pf 300) (-2)).hi) (qf x p).snd.fst.hi)) (Q (bT false)) (br (neI (sd (sf x p).fst (sf x p).snd).snd 0) (Q (bT true)) (br (neI (sd (cf x p).fst (cf x p).snd).snd 0) (Q (bT true)) (br (neI (ss (bf (qf x p).snd.fst p)).snd 0) (Q (bT true)) (br (eqI (qf x p).fst 0) (br (fM (sd (sf x p).fst (sf x p).snd).fst (ss (bf (qf x p).snd.fst p)).fst.fst) (Q (bT (fM (sd (cf x p).fst (cf x p).snd).fst (ss (bf (qf x p).snd.fst p)).fst.snd))) (Q (bT false))) (br (eqI (qf x p).fst 1) (br (fM (sd (sf x p).fst (sf x p).snd).fst (ss (bf (qf x p).snd.fst p)).fst.snd) ((eB 4611686018427387904 (ss (bf (qf x p).snd.fst p)).fst.fst.lo∧eB 4611686018427387904 (ss (bf (qf x p).snd.fst p)).fst.fst.hi)∧true=true∧Q (bT (fM (sd (cf x p).fst (cf x p).snd).fst (fG (ss (bf (qf x p).snd.fst p)).fst.fst)))) (true=true∧Q (bT false))) (br (eqI (qf x p).fst 2) ((eB 4611686018427387904 (ss (bf (qf x p).snd.fst p)).fst.fst.lo∧eB 4611686018427387904 (ss (bf (qf x p).snd.fst p)).fst.fst.hi)∧br (fM (sd (sf x p).fst (sf x p).snd).fst (fG (ss (bf (qf x p).snd.fst p)).fst.fst)) ((eB 4611686018427387904 (ss (bf (qf x p).snd.fst p)).fst.snd.lo∧eB 4611686018427387904 (ss (bf (qf x p).snd.fst p)).fst.snd.hi)∧true=true∧Q (bT (fM (sd (cf x p).fst (cf x p).snd).fst (fG (ss (bf (qf x p).snd.fst p)).fst.snd)))) (true=true∧Q (bT false))) ((eB 4611686018427387904 (ss (bf (qf x p).snd.fst p)).fst.snd.lo∧eB 4611686018427387904 (ss (bf (qf x p).snd.fst p)).fst.snd.hi)∧br (fM (sd (sf x p).fst (sf x p).snd).fst (fG (ss (bf (qf x p).snd.fst p)).fst.snd)) (true=true∧Q (bT (fM (sd (cf x p).fst (cf x p).snd).fst (ss (bf (qf x p).snd.fst p)).fst.fst))) (true=true∧Q (bT false))))))))))))))):=by kernel_rfl
theorem red_pair{x:Dx}{p n:Int}{R:Vx}(Q:QNum x p R n)(h:(bothR R p).2=0):∃ S C,bothR R p=((S,C),0)∧Ans (sinQ (rhS x.rv n)) S∧OneV S∧Ans (cosQ (rhS x.rv n)) C∧OneV C:=by
  obtain ⟨F1,F2⟩:faultD R.lo p=0∧faultD R.hi p=0:=by
    unfold bothR at h
    split at h
    · split at h
      · rename_i a
        split at h
        · rename_i b;exact ⟨a,b⟩
        · rename_i b;exact absurd h b
      · rename_i a;exact absurd h a
    · cases h
  rcases pair_ok Q.q Q.r F1 F2 Q.v (rlL (p2_pos _)) Rat.le_refl with ⟨e,_⟩|⟨e,K⟩
  · rw [e] at h;cases h
  · exact ⟨_,_,e,⟨K.sp,K.sr,enc_sinQ Q.enc Q.lo Q.hi fun z a b=>K.sin z a b⟩,K.sf,⟨K.cp,K.cr,enc_cosQ Q.enc Q.lo Q.hi fun z a b=>K.cos z a b⟩,K.cf⟩
theorem Ans.meets{s t:Nat→Rat}{v u:Vx}(h:Ans s v)(k:Ans t u)(e:Near s t):meetsV v u=true:=meets_of h.right k.right (h.enc.near e) k.enc
theorem small_n{x:Dx}{p n:Int}{R:Vx}(Q:QNum x p R n)(h1:-1≤x.rv)(h2:x.rv≤1):-1≤n∧n≤1:=by
  rcases Q.near with ⟨_,n0⟩|⟨w,w0,w1,f⟩
  · omega
  · have hf:=halfP_hf w0 (show w≤65000 by omega)
    have nr:=f (halfP w).lo.rv ⟨Rat.le_refl,hf.le⟩
    have l:=hf.lo
    obtain ⟨n1,n2,_⟩:=nr
    have c0:0<(halfP w).lo.rv:=by grind
    have ci:(halfP w).lo.rv*(halfP w).lo.rv⁻¹=1:=Rat.mul_inv_cancel _ (by grind)
    generalize (halfP w).lo.rv=c at *
    have i0:0≤c⁻¹:=rlL (Rat.inv_pos.2 c0)
    have i1:c⁻¹≤1:=by
      refine Classical.byContradiction fun k=>?_
      have:=rmL (show 1≤c⁻¹ by grind) (rlL c0)
      grind
    have a:=rmR h2 i0
    have b:=rmR h1 i0
    have two:((2:Int):Rat)=2:=rfl
    have mtwo:((-2:Int):Rat) = -2:=rfl
    constructor
    · refine Classical.byContradiction fun k=>?_
      have t:(n:Rat)≤((-2:Int):Rat):=Rat.intCast_le_intCast.2 (by omega)
      rw [mtwo] at t
      grind
    · refine Classical.byContradiction fun k=>?_
      have t:((2:Int):Rat)≤(n:Rat):=Rat.intCast_le_intCast.2 (by omega)
      rw [two] at t
      grind
theorem red_meets{x:Dx}{p n:Int}{R S C U W:Vx}(Q:QNum x p R n)(hn:-1≤n∧n≤1)(hS:Ans (sinQ (rhS x.rv n)) S)(fS:OneV S)(hC:Ans (cosQ (rhS x.rv n)) C)(fC:OneV C)(hU:Ans (sinS x.rv) U)(hW:Ans (cosS x.rv) W) :
    (n=0∧meetsV U S=true∧meetsV W C=true)∨(n=1∧meetsV U C=true∧meetsV W (turnV S)=true)∨(n = -1∧meetsV U (turnV C)=true∧meetsV W S=true):=by
  obtain ⟨a,b⟩:=right_moreS (c:=fun _=>x.rv) Q.ev hn (fun i=>by show x.rv=(x.rv-(n:Rat)*(1/2*piS i))+(n:Rat)*(1/2*piS i);grind)
  have a:Near (sinS x.rv) (sgS (rhS x.rv n) n):=a
  have b:Near (cosS x.rv) (kpS (rhS x.rv n) n):=b
  rcases (show n=0∨n=1∨n = -1 by omega) with rfl | rfl | rfl
  · refine .inl ⟨rfl,hU.meets hS (a.congr (fun _=>rfl) fun i=>?_),hW.meets hC (b.congr (fun _=>rfl) fun i=>?_)⟩
    · rw [sgS,show cu 0=1 from rfl,show su 0=0 from rfl];grind
    · rw [kpS,show cu 0=1 from rfl,show su 0=0 from rfl];grind
  · refine .inr (.inl ⟨rfl,hU.meets hC (a.congr (fun _=>rfl) fun i=>?_),hW.meets (turn_ans hS fS rfl) (b.congr (fun _=>rfl) fun i=>?_)⟩)
    · rw [sgS,show cu 1=0 from rfl,show su 1=1 from rfl];grind
    · rw [kpS,show cu 1=0 from rfl,show su 1=1 from rfl];grind
  · refine .inr (.inr ⟨rfl,hU.meets (turn_ans hC fC rfl) (a.congr (fun _=>rfl) fun i=>?_),hW.meets hS (b.congr (fun _=>rfl) fun i=>?_)⟩)
    · rw [sgS,show cu (-1)=0 from rfl,show su (-1) = -1 from rfl];grind
    · rw [kpS,show cu (-1)=0 from rfl,show su (-1) = -1 from rfl];grind
theorem red_eighth{x:Dx}{p n:Int}{R V:Vx}(Q:QNum x p R n){d:Rat}(P:PiIv d V):R.lo.rv≤V.hi.rv*(1/4)∧-(V.hi.rv*(1/4))≤R.hi.rv:=by
  have v3:=P.lo
  have vl:=P.le
  rcases Q.near with ⟨x0,n0⟩|⟨w,w0,w1,f⟩
  · subst n0
    have e:Enc (fun _=>(0:Rat)) R.lo.rv R.hi.rv:=Q.enc.near (Near.of_eq 0 fun i _=>by show x.rv-((0:Int):Rat)*_=0;rw [x0,show ((0:Int):Rat)=0 from rfl];grind)
    have a:=e.meets (Enc.const 0)
    have b:=(Enc.const 0).meets e
    grind
  · have hf:=halfP_hf w0 (show w≤65000 by omega)
    have l:=hf.lo
    have le:=hf.le
    have key:∀ c,InV (halfP w) c→((n:Rat)-1/2)*c≤x.rv∧x.rv≤((n:Rat)+1/2)*c:=fun c hc=>by
      have c0:0<c:=by have:=hc.1;grind
      obtain ⟨n1,n2,_⟩:=f c hc
      have ci:x.rv*c⁻¹*c=x.rv:=by rw [Rat.mul_assoc,Rat.inv_mul_cancel _ (by grind),Rat.mul_one]
      have a:=rmR n1 (rlL c0)
      have b:=rmR n2 (rlL c0)
      rw [ci] at a b
      exact ⟨a,b⟩
    have K:∃ K:Rat,0<K∧(n:Rat)≤K∧-(n:Rat)≤K:=by
      rcases Rat.le_total (a:=(n:Rat)) (b:=0) with h | h
      · exact ⟨1-n,by grind,by grind,by grind⟩
      · exact ⟨1+n,by grind,by grind,by grind⟩
    obtain ⟨K,K0,K1,K2⟩:=K
    have main:∀ e:Rat,0<e→R.lo.rv≤V.hi.rv*(1/4)+(K+3)*e∧-(V.hi.rv*(1/4))-(K+3)*e≤R.hi.rv:=fun e he=>by
      obtain ⟨N,hN⟩:=Q.enc e he
      obtain ⟨M,hM⟩:=(half_enc hf) e he
      obtain ⟨L,hL⟩:=P.enc e he
      obtain ⟨i,i1,i2,i3⟩:∃ i,N≤i∧M≤i∧L≤i:=⟨N+M+L,by omega,by omega,by omega⟩
      obtain ⟨a1,a2⟩:=hN i i1
      have b1:(halfP w).lo.rv-e≤1/2*piS i:=(hM i i2).1
      have b2:1/2*piS i≤(halfP w).hi.rv+e:=(hM i i2).2
      obtain ⟨c1,c2⟩:=hL i i3
      have ra:rhS x.rv n i=x.rv-(n:Rat)*(1/2*piS i):=rfl
      rw [ra] at a1 a2
      generalize piS i=q at *
      obtain ⟨c,hc,d1,d2⟩:∃ c,InV (halfP w) c∧1/2*q-c≤e∧c-1/2*q≤e:=by
        rcases Rat.le_total (a:=1/2*q) (b:=(halfP w).lo.rv) with h | h
        · exact ⟨_,⟨Rat.le_refl,le⟩,by grind,by grind⟩
        · rcases Rat.le_total (a:=1/2*q) (b:=(halfP w).hi.rv) with h' | h'
          · exact ⟨_,⟨h,h'⟩,by grind,by grind⟩
          · exact ⟨_,⟨le,Rat.le_refl⟩,by grind,by grind⟩
      obtain ⟨k1,k2⟩:=key c hc
      have t:∀ y:Rat,-e≤y→y≤e→(n:Rat)*y≤K*e∧-(K*e)≤(n:Rat)*y:=fun y y1 y2=>by
        rcases Rat.le_total (a:=0) (b:=(n:Rat)) with h | h
        · have m1:=rmL y2 h
          have m2:=rmL y1 h
          have m3:=rmR K1 (rlL he)
          grind
        · have h':0≤-(n:Rat):=by grind
          have m1:=rmL y2 h'
          have m2:=rmL y1 h'
          have m3:=rmR K2 (rlL he)
          grind
      obtain ⟨t1,t2⟩:=t (1/2*q-c) (by grind) (by grind)
      constructor<;>grind
    constructor
    · refine Classical.byContradiction fun h=>?_
      obtain ⟨g,hg⟩:∃ g,g=R.lo.rv-V.hi.rv*(1/4):=⟨_,rfl⟩
      have g0:0<g:=by grind
      have K4:(0:Rat)<K+4:=by grind
      have:=(main (g*(K+4)⁻¹) (Rat.mul_pos g0 (Rat.inv_pos.2 K4))).1
      have ci:(K+4)*(g*(K+4)⁻¹)=g:=by rw [Rat.mul_comm g,←Rat.mul_assoc,Rat.mul_inv_cancel _ (by grind),Rat.one_mul]
      have pos:=Rat.mul_pos g0 (Rat.inv_pos.2 K4)
      grind
    · refine Classical.byContradiction fun h=>?_
      obtain ⟨g,hg⟩:∃ g,g = -(V.hi.rv*(1/4))-R.hi.rv:=⟨_,rfl⟩
      have g0:0<g:=by grind
      have K4:(0:Rat)<K+4:=by grind
      have:=(main (g*(K+4)⁻¹) (Rat.mul_pos g0 (Rat.inv_pos.2 K4))).2
      have ci:(K+4)*(g*(K+4)⁻¹)=g:=by rw [Rat.mul_comm g,←Rat.mul_assoc,Rat.mul_inv_cancel _ (by grind),Rat.one_mul]
      have pos:=Rat.mul_pos g0 (Rat.inv_pos.2 K4)
      grind
theorem pAm_ok:SpecOk Tryz.prog 46 pAm :=
  specK_ok (envOk (S:=[]) tysF_ok trivial) mixed Tryz.func46 rfl (by decide) (by decide) fun (x:Int) _ _=>⟨fun _=>none,0,(pAm_vc x _).mpr rfl⟩
theorem pNu_ok:SpecOk Tryz.prog 45 pNu :=
  specK_ok (envOk (S:=[(46,pAm)]) tysF_ok ⟨pAm_ok,trivial⟩) mixed Tryz.func45 rfl (by decide) (by decide) fun (x:Int) _ _=>⟨fun _=>none,0,(pNu_vc x _).mpr rfl⟩
theorem pUp_ok:SpecOk Tryz.prog 18 pUp :=
  specK_ok (envOk (S:=[(46,pAm),(45,pNu)]) tysF_ok ⟨pAm_ok,pNu_ok,trivial⟩) mixed Tryz.func18 rfl (by decide) (by decide) fun (x:Int) _ hp=>⟨fun _=>none,0,by
    obtain rfl:x=9223372036854775808:=hp
    exact (pUp_vc _).mpr rfl⟩
theorem pSp_ok:SpecOk Tryz.prog 47 pSp :=
  specK_ok (envOk (S:=[]) tysF_ok trivial) mixed Tryz.func47 rfl (by decide) (by decide) fun (x:Int) _ hp=>⟨fun _=>none,0,by
    obtain rfl:x=9218868437227405312:=hp
    exact (pSp_vc _).mpr ⟨by omega,rfl⟩⟩
theorem tyCk_ok:RowsOk Tryz.prog (tyCk :: tysF):=⟨by kernel_rfl,tysF_ok⟩
theorem pCl_ok:SpecOk Tryz.prog 19 pCl :=
  specK_ok (envOk (S:=[(47,pSp)]) tyCk_ok ⟨pSp_ok,trivial⟩) mixed Tryz.func19 rfl (by decide) (by decide) fun (x:Int) _ hp=>⟨fun _=>none,0,by
    obtain rfl:x=9218868437227405312:=hp
    exact (pCl_vc _).mpr ⟨rfl,rfl⟩⟩
theorem wPar_l{l:List Sv}(hp:match (wPar l).1 with | none=>True | some p=>p):l = [.one (.lit (.string ⟨twoL.toArray⟩))]:=by
  match l with
  | []=>exact (hp:False).elim
  | [.agg _]=>exact (hp:False).elim
  | [.one a] =>
    cases a with
    | lit v=>rw [show v = .string ⟨twoL.toArray⟩ from hp]
    | _=>exact (hp:False).elim
  | a :: _ :: _ =>
    cases a with
    | agg=>exact (hp:False).elim
    | one a=>cases a<;>exact (hp:False).elim
theorem wPar_ok:SpecOk Tryz.prog 17 wPar where
  fn:=⟨_,_,Tryz.func17,by decide,rfl⟩
  run:=fun C w vs l hC hX hT hr hp=>by
    obtain rfl:=wPar_l hp
    match vs,hr with
    | [u],hr =>
      have hu:Rep C noBox w u (.lit (.string ⟨twoL.toArray⟩)):=hr.1
      cases hu with
      | lit _ =>
        refine parse_calls.mono ?_
        rintro e w' ⟨rfl,hb⟩
        exact ⟨_,rfl,⟨[.int .u8 17,.int .i64 0],rfl,Rep.int _ _,Rep.int _ _,trivial⟩,hb⟩
    | [],hr=>exact (hr:False).elim
    | _ :: _ :: _,hr=>exact (hr.2:False).elim
theorem sBgt_ok:SpecsOk Tryz.prog sBgt:=⟨wPar_ok,pUp_ok,pCl_ok,trivial⟩
theorem lBgt_ok:SpecOk Tryz.prog 4 wTrue :=
  specK_ok (envOk tysF_ok sBgt_ok) mixed Tryz.func4 rfl (by decide) (by decide) fun _=>⟨fun _=>none,0,(lBgt_vc _).mpr ⟨rfl,rfl,rfl,rfl⟩⟩
theorem lSt_ok:SpecOk Tryz.prog 10 wSt :=
  specKW_ok (envOk tys4_ok sG3_ok) mixed Tryz.func10 rfl (by decide) (by decide) fun (v:Vx) _ (w:Int) _ _=>⟨fun _=>none,0,by
    show execF _ _ _ _ _ (fun t=>t=reT (sndR v w)∨fgT t=reT (sndR v w))
    refine (lSt_vc v w _).mpr (br_intro (fun h=>br_intro (fun k=>.inr ?_) fun k=>.inl ?_) fun h=>.inl ?_)
    · rw [sndR,if_pos ⟨eqI_true.1 h,not_true k⟩];rfl
    · rw [sndR,if_neg (fun c=>by rw [not_false' k] at c;exact absurd c.2 (by decide))];rfl
    · rw [sndR,if_neg (fun c=>eqI_false.1 h c.1)];rfl⟩
theorem lSs_ok:SpecOk Tryz.prog 13 wSs :=
  specKW_ok (envOk tys4_ok sG3_ok) mixed Tryz.func13 rfl (by decide) (by decide) fun (v:Vx) _ (u:Vx) _ (w:Int) _ _=>⟨fun _=>none,0,by
    show execF _ _ _ _ _ (fun t=>t=reT2 (sndsR ((v,u),w))∨fgT t=reT2 (sndsR ((v,u),w)))
    refine (lSs_vc v u w _).mpr (br_intro (fun h=>br_intro (fun k=>.inr ?_) fun k=>br_intro (fun k'=>.inr ?_) fun k'=>⟨rfl,.inl ?_⟩) fun h=>⟨rfl,.inl ?_⟩)
    · rw [sndsR,if_pos ⟨eqI_true.1 h,.inl (not_true k)⟩];rfl
    · rw [sndsR,if_pos ⟨eqI_true.1 h,.inr (not_true k')⟩];rfl
    · rw [sndsR,if_neg (fun c=>by rcases c.2 with c | c<;>simp only [not_false' k,not_false' k'] at c<;>cases c)];rfl
    · rw [sndsR,if_neg (fun c=>eqI_false.1 h c.1)];rfl⟩
theorem snds_ok{r:(Vx×Vx)×Int}(h:(sndsR r).2=0):r.2=0∧sndsR r=r:=by
  unfold sndsR at h ⊢
  split at h
  · cases h
  · rename_i c;rw [if_neg c];exact ⟨h,rfl⟩
theorem sTr_ok:SpecsOk Tryz.prog (sTr quarR sinR cosR bothR sndR sndsR refPi scaleV cmpD negD meetsV turnV) :=
  ⟨lBgt_ok,qQu_ok,rSin_ok,rCos_ok,rBoth_ok,lSt_ok,lSs_ok,hPi_ok,gScale_ok,fOrder_ok,fNeg_ok,gMeets_ok,gNeg_ok,trivial⟩
def lTr:Spec:=specK [.d,.i .i64] fun (_:Dx) (_:Int)=>(none,bT true)
theorem scale4_hi{v:Vx}(hv:v.P):(scaleV v (-2)).hi.rv=v.hi.rv*(1/4):=by rw [←p2_v.2.2.2];exact rv_shift hv.2
theorem scale4_sm{v:Vx}(hv:v.P)(h:v.hi.Sm 1000):(scaleV v (-2)).hi.Sm 2002:=shiftD_sm (M:=2) hv.2 h (by omega) (by omega)
theorem scale4_m(v:Vx):0≤(scaleV v (-2)).hi.m:=shiftD_p
theorem not_lt00{n:Int}(h:n≤0)(k:ltI 0 n=true):False:=by have:=ltI_true.1 k;omega
theorem lTr_ok:SpecOk Tryz.prog 3 lTr :=
  specK_ok (envOk tys4_ok sTr_ok) mixed Tryz.func3 rfl (by decide) (by decide) fun (x:Dx) hxw (p:Int) _ _=>⟨fun _=>none,0,by
    have hx:=Dx.Wf.m0 hxw
    show execF _ _ _ _ _ (fun t=>t=bT true)
    refine (lTr_vc x p quarR sinR cosR bothR sndR sndsR refPi scaleV cmpD negD meetsV turnV _).mpr (br_intro (fun h=>br_intro (fun _=>rfl) fun k=>by rw [h] at k;cases k) fun h=>br_intro (fun h2=>br_intro (fun _=>rfl) fun _=>by rw [h2]) fun h2=>?_)
    have c0:=neI_false.1 h
    obtain ⟨k0,k3,sR,pR,_,_⟩:=quar_near hx c0
    obtain ⟨n,kn,Q⟩:=quar_num hx c0
    have P:=refPi_iv (w:=300) (by decide) (by decide)
    have cb:=refPi_bd (w:=300) (by decide) (by decide)
    generalize refPi 300=V at *
    have c1:=cb.1.sm (N:=1000) (by decide)
    have c2:=cb.2.sm (N:=1000) (by decide)
    have e1:(scaleV V (-2)).hi.rv=V.hi.rv*(1/4):=scale4_hi P.p
    have s1:(scaleV V (-2)).hi.Sm 2002:=scale4_sm P.p c2
    have m1:0≤(scaleV V (-2)).hi.m:=scale4_m _
    have s2:=negD_sm s1 m1
    obtain ⟨E1,E2⟩:=red_eighth Q P
    have o1:cmpD (quarR x p).2.1.lo (scaleV V (-2)).hi≤0:=cmpD_le.2 (by rw [e1];exact E1)
    have o2:cmpD (negD (scaleV V (-2)).hi) (quarR x p).2.1.hi≤0:=cmpD_le.2 (by rw [rv_neg m1,e1];exact E2)
    refine ⟨⟨by omega,by omega⟩,⟨c1.eB (by omega),c2.eB (by omega),by omega,by omega⟩,br_intro (fun q=>absurd (ltI_true.1 q) (by omega)) fun _=>br_intro (fun q=>absurd (ltI_true.1 q) (by omega)) fun _=>⟨⟨sR.1.mono (by omega),s1.mono (by omega)⟩,br_intro (fun q=>(not_lt00 o1 q).elim) fun _=>⟨s1.eB (by omega),⟨s2.mono (by omega),sR.2.mono (by omega)⟩,rfl,br_intro (fun q=>(not_lt00 o2 q).elim) fun _=>br_intro (fun _=>rfl) fun h3=>br_intro (fun _=>rfl) fun h4=>br_intro (fun _=>rfl) fun h5=>?_⟩⟩⟩
    obtain ⟨F,U⟩:=snd_sin hx (neI_false.1 h3)
    obtain ⟨_,W⟩:=snd_cos hx (neI_false.1 h4)
    obtain ⟨b0,b1⟩:=snds_ok (neI_false.1 h5)
    rw [b1]
    obtain ⟨S,C,eb,hS,fS,hC,fC⟩:=red_pair Q b0
    rw [eb]
    obtain ⟨_,_,_,small⟩:=fault0 hx F
    have hn:=small_n Q small.2 small.1
    have zS:=hS.sm
    have zC:=hC.sm
    rw [kn]
    rcases red_meets Q hn hS fS hC fC U W with ⟨rfl,a,b⟩|⟨rfl,a,b⟩|⟨rfl,a,b⟩
    · rw [a,b];rfl
    · show br (eqI 1 0) _ _
      rw [a,b]
      exact ⟨⟨zS.1.eB (by omega),zS.2.eB (by omega)⟩,rfl,rfl⟩
    · show br (eqI 3 0) _ _
      rw [a,b]
      exact ⟨⟨zC.1.eB (by omega),zC.2.eB (by omega)⟩,rfl,rfl⟩⟩
end Go.Proofs.YtgeihpalcagpfaaGreatDoor
namespace Go.Proofs.YtgeihpalcagpfaaGreatDoor
open Go.RowKit Go.ChangeShapes Go.WideShapes Go.Deep
set_option maxRecDepth 100000
def C0(W:World):Base:=⟨W.heap.size,fun _=>False,0⟩
section
variable {H:Type} {enc:TypeId×Value→H} {W:World} {base fuel:Nat} {s:Value} {x:DataW H×List MemPlace}
theorem open_words(hv:Cell.okWide Tryz.prog W .any base 23 s)(h:DataW.trod enc Tryz.prog W 0 (fun _=>true) true fuel 23 [s]=some x)
    (hw:(x.1.weights Tryz.prog 23).all (·≤reachBytes)=true) (hlt:∀ p∈x.2,p.block<W.heap.size):∃ xs,Rep (C0 W) noBox W s (.words false xs):=by
  rcases open_ints Tryz.underlying23 Tryz.underlying48 (by kernel_rfl) h with ⟨e,rfl⟩|⟨a,len,cap,zs,e,_,hl,hm,hz,rfl,hc,hwf⟩
  · cases e
    exact ⟨[],.words ⟨none,0,rfl,Nat.le_refl _,⟨by omega,by simp⟩,Words.nil,fun _=>rfl,fun h=>absurd h (by simp)⟩⟩
  · cases e
    rw [if_pos rfl] at hz
    obtain ⟨_,_,_,hspot,_⟩:len≤cap∧(cap:Int)≤IntKind.i64.max∧W.has Tryz.prog .any base a 48 cap:=by
      simpa [Cell.okWide,Cell.ok,Tryz.underlying23] using hv
    obtain ⟨g,o,spot⟩:=a
    simp only at hspot;subst hspot
    have hb8:Tryz.prog.bytesOf 48=8:=by kernel_rfl
    have hwt:(len+(cap-len))*8≤reachBytes:=by
      simp only [DataW.weights,Tryz.underlying23,List.all_cons,Bool.and_eq_true,decide_eq_true_eq,lits,List.length_map,List.length_take,List.length_drop,hz,hb8] at hw
      have:=hw.1
      rwa [Nat.min_eq_left hl] at this
    have hr:reachBytes=140737488351232:=rfl
    rw [hr] at hwt
    have hwords:Words zs:=fun n hn=>by
      have:=hwf n hn
      simp only [Lit.wf,Bool.and_eq_true,decide_eq_true_eq] at this
      have h1:IntKind.u64.min=0:=rfl
      have h2:IntKind.u64.max=18446744073709551615:=rfl
      rw [h1,h2] at this
      exact ⟨by omega,by omega⟩
    have hlen:(zs.take len).length=len:=by rw [List.length_take];omega
    refine ⟨zs.take len,.words ⟨_,cap,by rw [hlen],by omega,⟨by simp [maxLen] at hm;omega,by omega⟩,hwords.take _,by simp,fun hp=>⟨g,o,rfl,⟨⟨by simp [noBox],fun hx=>hx.elim⟩,by simp⟩,?_,fun j hj=>?_⟩⟩⟩
    · exact World.block_lt_of_cell? W _ (hc 0 (by omega))
    · have hj:j<len:=by omega
      have:=hc j (by omega)
      rw [nth_take hj]
      rw [show (⟨g,o,none⟩:Addr).add j=⟨g,o+j,none⟩ from by simp [Addr.add]] at this
      exact this
theorem open_dy{cs:List Value}(hok:∀ c,cs[1]?=some c→Cell.okWide Tryz.prog W .any base 23 c)(h:DataW.trod enc Tryz.prog W 0 (fun _=>true) true fuel 25 cs=some x)
    (hw:(x.1.weights Tryz.prog 25).all (·≤reachBytes)=true) (hlt:∀ p∈x.2,p.block<W.heap.size):∃ d:Dx,RepL (C0 W) noBox W cs (dyL false d):=by
  obtain ⟨y0,y1,y2,n,rfl,hl,h0,h1,h2⟩:=trod_struct3 Tryz.underlying25 h
  rw [show Tryz.prog.cellsOf 25=3 by kernel_rfl] at hl
  match cs,hl with
  | [c0,c1,c2],_ =>
    obtain ⟨b,e0,rfl⟩:=DataW.trod_bool Tryz.underlying4 h0
    obtain ⟨k,e2,rfl,hk⟩:=DataW.trod_int Tryz.underlying3 h2
    rw [show Tryz.prog.cellsOf 4=1 by kernel_rfl] at e0
    rw [show Tryz.prog.cellsOf 3=1 by kernel_rfl] at e2
    simp at e0 e2
    subst e0;subst e2
    simp only [show Tryz.prog.cellsOf 23=1 by kernel_rfl] at h1
    simp only [DataW.weights,Tryz.underlying25,DataW.weightsEach,List.map_cons,List.map_nil,List.all_append,Bool.and_eq_true] at hw
    obtain ⟨xs,hxs⟩:=open_words (hok c1 rfl) (by simpa using h1) hw.2.1 (fun p hp=>hlt p (by simp [hp]))
    exact ⟨⟨b,xs,k⟩,Rep.bool b,hxs,Rep.int _ k,trivial⟩
theorem arg_d{v:Value}{d:DataW H}{ps:List MemPlace}(hv:Value.okWide Tryz.prog W .any base 25 v)(h:DataW.Trod enc Tryz.prog W 0 (fun _=>true) true 25 v d ps)
    (hw:(d.weights Tryz.prog 25).all (·≤reachBytes)=true) (hlt:∀ p∈ps,p.block<W.heap.size):∃ x:Dx,RepS (C0 W) noBox W v (.agg (dyL false x)):=by
  simp only [Value.okWide,Tryz.underlying25] at hv
  obtain ⟨cs,rfl,hsz,ts,hts,_,hrow⟩:=hv
  rw [show Tryz.prog.cellTypes Tryz.prog.depth 25=some [4,23,3] by kernel_rfl] at hts
  cases hts
  obtain ⟨fuel,h⟩:=h
  obtain ⟨x,hx⟩:=open_dy (x:=(d,ps)) (base:=base) (fun c hc=>by
    obtain ⟨u,hu,hok⟩:=hrow 1 c (by rw [←Array.getElem?_toList];exact hc)
    cases hu;exact hok) h hw hlt
  exact ⟨x,cs.toList,rfl,hx⟩
theorem arg_v{v:Value}{d:DataW H}{ps:List MemPlace}(hv:Value.okWide Tryz.prog W .any base 28 v)(h:DataW.Trod enc Tryz.prog W 0 (fun _=>true) true 28 v d ps)
    (hw:(d.weights Tryz.prog 28).all (·≤reachBytes)=true) (hlt:∀ p∈ps,p.block<W.heap.size):∃ x:Vx,RepS (C0 W) noBox W v (.agg (ivL false x)):=by
  simp only [Value.okWide,Tryz.underlying28] at hv
  obtain ⟨cs,rfl,hsz,ts,hts,_,hrow⟩:=hv
  rw [show Tryz.prog.cellTypes Tryz.prog.depth 28=some [4,23,3,4,23,3] by kernel_rfl] at hts
  cases hts
  rw [show Tryz.prog.cellsOf 28=6 by kernel_rfl] at hsz
  obtain ⟨fuel,h⟩:=h
  obtain ⟨cs⟩:=cs
  match cs,hsz with
  | [c0,c1,c2,c3,c4,c5],_ =>
    obtain ⟨y0,y1,n,e,_,h0,h1⟩:=trod_struct2 Tryz.underlying28 h
    cases e
    simp only [show Tryz.prog.cellsOf 25=3 by kernel_rfl] at h0 h1
    simp only [DataW.weights,Tryz.underlying28,DataW.weightsEach,List.map_cons,List.map_nil,List.all_append,Bool.and_eq_true] at hw
    obtain ⟨x,hx⟩:=open_dy (cs:=[c0,c1,c2]) (base:=base) (fun c hc=>by
      obtain ⟨u,hu,hok⟩:=hrow 1 c hc
      cases hu;exact hok) h0 hw.1 (fun p hp=>hlt p (by simp [hp]))
    obtain ⟨y,hy⟩:=open_dy (cs:=[c3,c4,c5]) (base:=base) (fun c hc=>by
      obtain ⟨u,hu,hok⟩:=hrow 4 c hc
      cases hu;exact hok) h1 hw.2.1 (fun p hp=>hlt p (by simp [hp]))
    obtain ⟨a1,a2,a3,_⟩:=hx
    obtain ⟨b1,b2,b3,_⟩:=hy
    exact ⟨⟨x,y⟩,[c0,c1,c2,c3,c4,c5],rfl,a1,a2,a3,b1,b2,b3,trivial⟩
def Kd:Ak→TypeId→Prop
  | .b,t=>t=4
  | .i q,t=>Tryz.prog.underlying t=some (.int q)
  | .w,_=>False
  | .fx,_=>False
  | .p,_=>False
  | .d,t=>t=25
  | .v,t=>t=28
def Kds:List Ak→List TypeId→Prop
  | [],[]=>True
  | k :: ks,t :: ts=>Kd k t∧Kds ks ts
  | _,_=>False
def okArg:(k:Ak)→k.T→Prop
  | .i q,n=>q.min≤n∧n≤q.max
  | _,_=>True
theorem arg_k{k:Ak}{t:TypeId}(hk:Kd k t){v:Value}{d:DataW H}{ps:List MemPlace}(hv:Value.okWide Tryz.prog W .any base t v)(h:DataW.Trod enc Tryz.prog W 0 (fun _=>true) true t v d ps)
    (hw:(d.weights Tryz.prog t).all (·≤reachBytes)=true) (hlt:∀ p∈ps,p.block<W.heap.size):∃ x:k.T,RepS (C0 W) noBox W v (k.enc x)∧okArg k x:=by
  cases k with
  | b =>
    obtain rfl:t=4:=hk
    obtain ⟨b,rfl⟩:=okWide_bool Tryz.underlying4 hv
    exact ⟨b,Rep.bool b,trivial⟩
  | i q =>
    obtain ⟨n,rfl⟩:=okWide_int hk hv
    refine ⟨n,Rep.int q n,(show q.min≤n∧n≤q.max from ?_)⟩
    have hk:Tryz.prog.underlying t=some (.int q):=hk
    simpa [Value.okWide,Cell.okWide,Cell.ok,hk,IntKind.has] using hv
  | w=>exact hk.elim
  | fx=>exact hk.elim
  | p=>exact hk.elim
  | d =>
    obtain rfl:t=25:=hk
    obtain ⟨x,hx⟩:=arg_d hv h hw hlt;exact ⟨x,hx,trivial⟩
  | v =>
    obtain rfl:t=28:=hk
    obtain ⟨x,hx⟩:=arg_v hv h hw hlt;exact ⟨x,hx,trivial⟩
theorem dec_enc(k:Ak)(x:k.T):k.dec (k.enc x)=some x:=by
  cases k with
  | i q=>cases q<;>rfl
  | _=>rfl
def AllTrue:(ks:List Ak)→AFun ks→Prop
  | [],g=>(match g.1 with | none=>True | some p=>p)∧g.2 = .sv (.one (.bool true))
  | k :: ks,g=>∀ x:k.T,okArg k x→AllTrue ks (g x)
theorem args_ok:∀ {ks:List Ak} {ts:List TypeId} {vs:List Value} {ds:List (DataW H)} {ps:List MemPlace},Kds ks ts→(∀ (j:Nat) t v,ts[j]?=some t→vs[j]?=some v→Value.okWide Tryz.prog W .any base t v) →
    DataW.TrodAll enc Tryz.prog W 0 (fun _=>true) true ts vs ds ps→(DataW.weightsEach Tryz.prog ts ds).all (·≤reachBytes)=true→(∀ p∈ps,p.block<W.heap.size) →
    ∃ l,RepSs (C0 W) noBox W vs l∧∀ g,AllTrue ks g→(match (specK ks g l).1 with | none=>True | some p=>p)∧(specK ks g l).2 = .sv (.one (.bool true))
  | [],[],vs,ds,ps,_,_,h,_,_=>by
    obtain ⟨rfl,rfl,rfl⟩:=trodAll_nil h
    exact ⟨[],trivial,fun g hg=>hg⟩
  | [],_ :: _,_,_,_,hk,_,_,_,_=>hk.elim
  | _ :: _,[],_,_,_,hk,_,_,_,_=>hk.elim
  | k :: ks,t :: ts,vs,ds,ps,hk,hv,h,hw,hlt=>by
    obtain ⟨v,vs1,d,ds1,a,b,rfl,rfl,rfl,h1,h2⟩:=trodAll_cons h
    simp only [DataW.weightsEach,List.all_append,Bool.and_eq_true] at hw
    obtain ⟨x,hx,hox⟩:=arg_k hk.1 (hv 0 t v rfl rfl) h1 hw.1 (fun p hp=>hlt p (by simp [hp]))
    obtain ⟨l,hl,hs⟩:=args_ok hk.2 (fun j t v ht hv'=>hv (j+1) t v ht hv') h2 hw.2 (fun p hp=>hlt p (by simp [hp]))
    refine ⟨k.enc x :: l,⟨hx,hl⟩,fun g hg=>?_⟩
    have e:specK (k :: ks) g (k.enc x :: l)=(match k.dec (k.enc x) with | some x=>specK ks (g x) l | none=>noSpec):=rfl
    rw [e,dec_enc]
    exact hs (g x) (hg x hox)
theorem law_calls{f:FuncId}{ks:List Ak}{g:AFun ks}(hs:SpecOk Tryz.prog f (specK ks g))(hg:AllTrue ks g){ts:List TypeId}{args:Array Value}{ds:List (DataW H)}{ps:List MemPlace}(hT:Tab W)(hk:Kds ks ts)
    (hv:∀ (j:Nat) t v,ts[j]?=some t→args.toList[j]?=some v→Value.okWide Tryz.prog W .any base t v) (h:DataW.TrodAll enc Tryz.prog W 0 (fun _=>true) true ts args.toList ds ps)
    (hw:(DataW.weightsEach Tryz.prog ts ds).all (·≤reachBytes)=true) (hlt:∀ p∈ps,p.block<W.heap.size) :
    Calls Tryz.prog f args W fun e W'=>e = .returned (.bool true)∧Below W.heap.size W W':=by
  obtain ⟨l,hl,hsp⟩:=args_ok hk hv h hw hlt
  have:=hs.2 (C0 W) W args.toList l rfl (fun g hg=>hg.elim) hT hl (hsp g hg).1
  rw [(hsp g hg).2] at this
  refine this.mono ?_
  rintro e w' ⟨v,rfl,hr,hb⟩
  obtain rfl:=rep_bool (A:=noBox) hr
  exact ⟨rfl,hb⟩
theorem trodAll_below{W':World}(hb:Below W.heap.size W W')(hl:laidOutB Tryz.prog=true):∀ {ts:List TypeId} {vs:List Value} {ds:List (DataW H)} {ps:List MemPlace},(∀ t∈ts,Tryz.prog.readableRec t=true∧t<Tryz.prog.types.size) →
    DataW.TrodAll enc Tryz.prog W 0 (fun _=>true) true ts vs ds ps→(∀ p∈ps,p.block<W.heap.size)→DataW.TrodAll enc Tryz.prog W' 0 (fun b=>decide (b<W.heap.size)) true ts vs ds ps
  | [],vs,ds,ps,_,h,_=>by
    obtain ⟨rfl,rfl,rfl⟩:=trodAll_nil h
    exact trodAll_mk0
  | t :: ts,vs,ds,ps,ht,h,hlt=>by
    obtain ⟨v,vs1,d,ds1,a,b,rfl,rfl,rfl,h1,h2⟩:=trodAll_cons h
    exact ⟨a,b,Below.trod hl (ht t (by simp)).1 (ht t (by simp)).2 h1 hb (fun p hp=>hlt p (by simp [hp])),trodAll_below hb hl (fun t h=>ht t (by simp [h])) h2 (fun p hp=>hlt p (by simp [hp])),rfl⟩
theorem law_post{fn:Func}{s:ChangeSpec}(hl:laidOutB Tryz.prog=true)(hres:fn.resultTypes = #[4])(hvars:s.vars = [])(ht:∀ t∈fn.params.toList,Tryz.prog.readableRec t=true∧t<Tryz.prog.types.size)
    {args:Array Value} {ds gs:List (DataW H)} {before:List MemPlace} (hspec:s.fn H (ds ++ gs) = { results:=[.lit (.bool true)],args:=ds })
    (hW:DataW.Whole enc Tryz.prog fn.params.toList s.vars false W args.toList ds gs before) {W':World} (hb:Below W.heap.size W W') :
    s.post enc Tryz.prog fn false true false false W args (.bool true) W':=by
  have hlt:=hW.lt
  have hW':=hW
  obtain ⟨p,q,hA,hV,rfl,hfz,hnd⟩:=hW
  rw [hvars] at hV
  obtain ⟨rfl,rfl⟩:=trodVars_none hV
  refine ⟨ds,[],_,[],p,[],hW',?_,?_,?_,hb.frame _,fun h=>by cases h⟩
  · rw [hspec,hres]
    exact trodAll_mk1 (shut_bool Tryz.underlying4 _)
  · rw [hspec]
    exact trodAll_below hb hl ht hA (fun x hx=>hlt x (by simp [hx]))
  · rw [hspec,hvars];rfl
end
theorem law_contract{H:Type}{enc:TypeId×Value→H}{f:FuncId}{fn:Func}{ks:List Ak}{g:AFun ks}{s:ChangeSpec}(hs:SpecOk Tryz.prog f (specK ks g))(hg:AllTrue ks g)(hl:laidOutB Tryz.prog=true)(hres:fn.resultTypes = #[4])(hvars:s.vars = [])
    (hvt:s.plain.varTypes Tryz.prog = []) (ht:∀ t∈fn.params.toList,Tryz.prog.readableRec t=true∧t<Tryz.prog.types.size) (hk:Kds ks fn.params.toList) (hspec:∀ ds:List (DataW H),ds.length=fn.params.toList.length→s.fn H ds = { results:=[.lit (.bool true)],args:=ds })
    {W:World} {base:Nat} {args:Array Value} {ds gs:List (DataW H)} {before:List MemPlace} (hval:∀ (j:Nat) t v,fn.params[j]?=some t→args[j]?=some v→Value.okWide Tryz.prog W .any base t v)
    (hW:DataW.Whole enc Tryz.prog fn.params.toList s.vars false W args.toList ds gs before) (hw:(DataW.weightsEach Tryz.prog (fn.params.toList ++ s.plain.varTypes Tryz.prog) (ds ++ gs)).all (·≤reachBytes)=true) (hT:Tab W) :
    Calls Tryz.prog f args W fun e W'=>∃ v,e = .returned v∧s.post enc Tryz.prog fn false true false false W args v W':=by
  have hlt:=hW.lt
  have hW':=hW
  obtain ⟨p,q,hA,hV,rfl,hfz,hnd⟩:=hW
  rw [hvars] at hV
  obtain ⟨rfl,rfl⟩:=trodVars_none hV
  rw [hvt,List.append_nil,List.append_nil] at hw
  refine (law_calls hs hg hT hk (fun j t v h1 h2=>hval j t v (by rw [←Array.getElem?_toList];exact h1) (by rw [←Array.getElem?_toList];exact h2)) hA hw (fun x hx=>hlt x (by simp [hx]))).mono ?_
  rintro e W' ⟨rfl,hb⟩
  exact ⟨_,rfl,law_post hl hres hvars ht (by rw [List.append_nil];exact hspec ds (trodAll_length hA).2) hW' hb⟩
theorem tabA_of{W:World}{D:DataW Unit}(hD:∀ ys:List (DataW Unit×List MemPlace),D = .agg (ys.map (·.1))→∀ j,j<64→∃ y,ys[j]?=some y∧y.1 = .lit (.int .u8 (Lib.deBruijn64tab.getD j 0)))
    {g0 : Nat} {t0 : TypeId} {cs0 : Array Value} {f0 : Nat} {p0 : List MemPlace} (hg0 : Tryz.prog.globalNamed "math/bits.deBruijn64tab" = some g0) (ht0 : (Tryz.prog.globals[g0]?).map (·.type) = some t0) (hv0 : W.var? Tryz.prog "math/bits.deBruijn64tab" = some cs0)
    (hd0:DataW.trod (fun _=>()) Tryz.prog W 0 (fun _=>true) false f0 t0 cs0.toList=some (D,p0)):TabA W:=by
  obtain rfl := Option.some.inj ((show Tryz.prog.globalNamed "math/bits.deBruijn64tab" = some 0 by kernel_rfl).symm.trans hg0)
  obtain rfl:=Option.some.inj ((show (Tryz.prog.globals[0]?).map (·.type)=some 167 by kernel_rfl).symm.trans ht0)
  obtain ⟨xs,m1,_,hx1,hlen,hn3,hel⟩:=DataW.trod_array Tryz.underlying167 hd0
  intro j hj
  simp only [Prod.mk.injEq] at hx1
  obtain ⟨y,hy,hy1⟩:=hD xs hx1.1 j hj
  have hj':=hel j hj
  rw [hy,show Tryz.prog.cellsOf 5=1 by kernel_rfl] at hj'
  obtain ⟨k,e1,e2,_⟩:=DataW.trod_int Tryz.underlying5 hj'
  have hk:k=Lib.deBruijn64tab.getD j 0:=by
    rw [e2] at hy1;simpa using hy1
  subst hk
  have:=World.var?_cell hg0 hv0 j
  rw [this]
  rw [Nat.mul_one] at e1
  have e3:(cs0.toList.drop j)[0]?=some (.int .u8 (Lib.deBruijn64tab.getD j 0)):=by
    have:((cs0.toList.drop j).take 1)[0]?=some (.int .u8 (Lib.deBruijn64tab.getD j 0)):=by rw [e1];rfl
    rwa [List.getElem?_take,if_pos (by omega)] at this
  rw [List.getElem?_drop,Nat.add_zero] at e3
  simpa using e3
theorem tab_of{W:World}{D:DataW Unit}(hD:∀ ys:List (DataW Unit×List MemPlace),D = .agg (ys.map (·.1))→∀ j,j<64→∃ y,ys[j]?=some y∧y.1 = .lit (.int .u8 (Lib.deBruijn64tab.getD j 0)))(hh:D.handleName?.isNone=true)
    (h : laidMetH Tryz.prog [("math/bits.deBruijn64tab", D)] W) : Tab W := by
  rw [MakeChecks.laidMetH_plain _ _ _ (by simp [hh])] at h
  obtain ⟨ps,⟨g0,t0,cs0,f0,p0,q0,hg0,ht0,hv0,hd0,_⟩,_⟩:=h
  exact ⟨tabA_of hD hg0 ht0 hv0 hd0,trivial⟩
end Go.Proofs.YtgeihpalcagpfaaGreatDoor
