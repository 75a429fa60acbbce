/-
The references: whole numbers, quotients.
The references' root of a number is the program's. Plain.
ulpref04.Copy, by hand: a copy of a number's words.
The reckoning again, so that the kernel can do it: the same functions by recursion on a number of rounds.
Package ulpref06's last, package ulplaw06's own.
The references' roots: runs of ulpref03.Pow (a square), ulpref03.Root (of a square), ulpref06.Root, Sqrt; IvalTwos: runs.
The references' roots: words.
IvalTwos: runs.
IvalTwos: the word.
From the arguments of a row to numbers and intervals; what a law's call leaves.
-/
import Derived.Test.YtbboniaeoegeeaaGreatDoorMg2
import Derived.Test.YtbboniaeoegeeaaGreatDoorMg1
import Derived.ProofKit
import Derived.LaidMore
import Derived.OpenShut
import Derived.LaidLaws
import Derived.Carry
import Derived.OpenVars
import Derived.Deep.Strs
import Derived.ChangeCalls
import Derived.Stop.Joined
namespace Go.Proofs.YtbboniaeoegeeaaGreatDoor
open Go.RowKit
def nDiv:Spec:=specK [.w,.w] fun (xs:List Int) (ys:List Int)=>(some (0<val ys∧blen (val xs)≤1073741824∧ys.length≤8796093022208),.tup [.one (.words true (ws (val xs/val ys))),.one (.words true (ws (val xs % val ys)))])
theorem nDiv_ok:SpecOk Tryz.prog 75 nDiv :=
  handK_ok Tryz.func75 rfl (by decide) fun _ _ hC hX _=>fun _ _ _ h _ _ _ h' hp=>nat2_back hC hX (div3_calls (rep_natAt h) (rep_natAt h') hp.1 hp.2.1 hp.2.2)
def gLeft:Spec:=specK [.w,.i .i64] fun (xs:List Int) (k:Int)=>(some (k≤1099511627776∧-9007199254740992≤k∧xs.length≤8796093022208),.tup [.one (.words true (ws (leftM (val xs) k))),.one (.bool (leftB (val xs) k))])
theorem gLeft_vc(xs:List Int)(k:Int)(Q:Tv→Prop):execF ⟨tys2,sRef4⟩ (fun _=>none) 0 Tryz.f74 [.one (.words false xs),.one (.int .i64 k)] Q=(br (leI 0 k) (((0:Int)≤k∧k≤1099511627776∧List.length xs≤8796093022208)∧Q (Tv.tup [Sv.one (At.words true (ws (val xs*2^Int.toNat k))),Sv.one (At.bool false)])) (inR ((0:Int)-k)∧((0:Int)≤0-k∧(0:Int)-k≤9007199254740992)∧Q (Tv.tup [Sv.one (At.words true (ws (val xs/2^Int.toNat ((0:Int)-k)))),Sv.one (At.bool (lostB (val xs) (Int.toNat ((0:Int)-k))))]))):=by kernel_rfl
theorem gLeft_ok:SpecOk Tryz.prog 74 gLeft :=
  specK_ok (envOk tys2_ok sRef4_ok) mixed Tryz.func74 rfl (by decide) (by decide) fun (xs:List Int) _ (k:Int) _ hp=>⟨fun _=>none,0,by
    obtain ⟨k1,k0,l⟩:k≤1099511627776∧-9007199254740992≤k∧xs.length≤8796093022208:=hp
    show execF _ _ _ _ _ (fun t=>t = .tup [.one (.words true (ws (leftM (val xs) k))),.one (.bool (leftB (val xs) k))])
    refine (gLeft_vc xs k _).mpr (br_intro (fun h=>⟨⟨leI_true.1 h,by omega,l⟩,?_⟩) fun h=>⟨⟨by omega,by omega⟩,⟨by have:=leI_false.1 h;omega,by omega⟩,?_⟩)
    · rw [leftM,leftB,if_pos (leI_true.1 h),if_pos (leI_true.1 h)]
    · rw [leftM,leftB,if_neg (leI_false.1 h),if_neg (leI_false.1 h),Int.zero_sub]⟩
def sOv:List (FuncId×Spec):=[(75,nDiv),(74,gLeft)] ++ sRef4
theorem sOv_ok:SpecsOk Tryz.prog sOv:=⟨nDiv_ok,gLeft_ok,sRef4_ok⟩
theorem gOver_vc(a b:Dx)(p:Int)(up:Bool)(Q:Tv→Prop):execF ⟨tys2,sOv⟩ (fun _=>none) 0 Tryz.f45 [.agg (dyL false a),.agg (dyL false b),.one (.int .i64 p),.one (.bool up)] Q=(eB 4611686018427387904 a∧eB 4611686018427387904 b∧true=true∧br (eqI (↑(List.length (oneD a).xs):Int) 0) (Q (Tv.sv (Sv.agg [At.bool false,At.words true [],At.int .i64 0]))) (inR (p+2)∧inR (p+2+(↑(blen (val (oneD b).xs)):Int))∧inR (p+2+(↑(blen (val (oneD b).xs)):Int)-(↑(blen (val (oneD a).xs)):Int))∧true=true∧(p+2+(↑(blen (val (oneD b).xs)):Int)-(↑(blen (val (oneD a).xs)):Int)≤1099511627776∧(-9007199254740992:Int)≤p+2+(↑(blen (val (oneD b).xs)):Int)-(↑(blen (val (oneD a).xs)):Int)∧List.length (oneD a).xs≤8796093022208)∧((0:Int)<val (oneD b).xs∧blen (val (ws (leftM (val (oneD a).xs) (p+2+(↑(blen (val (oneD b).xs)):Int)-(↑(blen (val (oneD a).xs)):Int)))))≤1073741824∧List.length (oneD b).xs≤8796093022208)∧((0:Int)≤1∧(1:Int)≤1099511627776∧List.length (ws (val (ws (leftM (val (oneD a).xs) (p+2+(↑(blen (val (oneD b).xs)):Int)-(↑(blen (val (oneD a).xs)):Int))))/val (oneD b).xs))≤8796093022208)∧br (ltI 0 (↑(List.length (ws (val (ws (leftM (val (oneD a).xs) (p+2+(↑(blen (val (oneD b).xs)):Int)-(↑(blen (val (oneD a).xs)):Int)))) % val (oneD b).xs))):Int)) (Word 1∧(List.length (ws (val (ws (val (ws (leftM (val (oneD a).xs) (p+2+(↑(blen (val (oneD b).xs)):Int)-(↑(blen (val (oneD a).xs)):Int))))/val (oneD b).xs))*2^1))≤17592186044414∧List.length (ws 1)≤17592186044414)∧inR ((oneD a).e-(oneD b).e)∧inR ((oneD a).e-(oneD b).e-(p+2+(↑(blen (val (oneD b).xs)):Int)-(↑(blen (val (oneD a).xs)):Int)))∧inR ((oneD a).e-(oneD b).e-(p+2+(↑(blen (val (oneD b).xs)):Int)-(↑(blen (val (oneD a).xs)):Int))-1)∧((-4611686018427387904:Int)≤(oneD a).e-(oneD b).e-(p+2+(↑(blen (val (oneD b).xs)):Int)-(↑(blen (val (oneD a).xs)):Int))-1∧(oneD a).e-(oneD b).e-(p+2+(↑(blen (val (oneD b).xs)):Int)-(↑(blen (val (oneD a).xs)):Int))-1≤4611686018427387904)∧(Dx.Sm 34359738368 (mkD (!(oneD a).neg == (oneD b).neg) (val (ws (val (ws (val (ws (val (ws (leftM (val (oneD a).xs) (p+2+(↑(blen (val (oneD b).xs)):Int)-(↑(blen (val (oneD a).xs)):Int))))/val (oneD b).xs))*2^1))+val (ws 1)))) ((oneD a).e-(oneD b).e-(p+2+(↑(blen (val (oneD b).xs)):Int)-(↑(blen (val (oneD a).xs)):Int))-1))∧(0:Int)≤p∧p≤1099511627776)∧Q (Tv.sv (Sv.agg (dyL true (cutD (mkD (!(oneD a).neg == (oneD b).neg) (val (ws (val (ws (val (ws (val (ws (leftM (val (oneD a).xs) (p+2+(↑(blen (val (oneD b).xs)):Int)-(↑(blen (val (oneD a).xs)):Int))))/val (oneD b).xs))*2^1))+val (ws 1)))) ((oneD a).e-(oneD b).e-(p+2+(↑(blen (val (oneD b).xs)):Int)-(↑(blen (val (oneD a).xs)):Int))-1)) p up))))) (br (leftB (val (oneD a).xs) (p+2+(↑(blen (val (oneD b).xs)):Int)-(↑(blen (val (oneD a).xs)):Int))) (Word 1∧(List.length (ws (val (ws (val (ws (leftM (val (oneD a).xs) (p+2+(↑(blen (val (oneD b).xs)):Int)-(↑(blen (val (oneD a).xs)):Int))))/val (oneD b).xs))*2^1))≤17592186044414∧List.length (ws 1)≤17592186044414)∧inR ((oneD a).e-(oneD b).e)∧inR ((oneD a).e-(oneD b).e-(p+2+(↑(blen (val (oneD b).xs)):Int)-(↑(blen (val (oneD a).xs)):Int)))∧inR ((oneD a).e-(oneD b).e-(p+2+(↑(blen (val (oneD b).xs)):Int)-(↑(blen (val (oneD a).xs)):Int))-1)∧((-4611686018427387904:Int)≤(oneD a).e-(oneD b).e-(p+2+(↑(blen (val (oneD b).xs)):Int)-(↑(blen (val (oneD a).xs)):Int))-1∧(oneD a).e-(oneD b).e-(p+2+(↑(blen (val (oneD b).xs)):Int)-(↑(blen (val (oneD a).xs)):Int))-1≤4611686018427387904)∧(Dx.Sm 34359738368 (mkD (!(oneD a).neg == (oneD b).neg) (val (ws (val (ws (val (ws (val (ws (leftM (val (oneD a).xs) (p+2+(↑(blen (val (oneD b).xs)):Int)-(↑(blen (val (oneD a).xs)):Int))))/val (oneD b).xs))*2^1))+val (ws 1)))) ((oneD a).e-(oneD b).e-(p+2+(↑(blen (val (oneD b).xs)):Int)-(↑(blen (val (oneD a).xs)):Int))-1))∧(0:Int)≤p∧p≤1099511627776)∧Q (Tv.sv (Sv.agg (dyL true (cutD (mkD (!(oneD a).neg == (oneD b).neg) (val (ws (val (ws (val (ws (val (ws (leftM (val (oneD a).xs) (p+2+(↑(blen (val (oneD b).xs)):Int)-(↑(blen (val (oneD a).xs)):Int))))/val (oneD b).xs))*2^1))+val (ws 1)))) ((oneD a).e-(oneD b).e-(p+2+(↑(blen (val (oneD b).xs)):Int)-(↑(blen (val (oneD a).xs)):Int))-1)) p up))))) (inR ((oneD a).e-(oneD b).e)∧inR ((oneD a).e-(oneD b).e-(p+2+(↑(blen (val (oneD b).xs)):Int)-(↑(blen (val (oneD a).xs)):Int)))∧inR ((oneD a).e-(oneD b).e-(p+2+(↑(blen (val (oneD b).xs)):Int)-(↑(blen (val (oneD a).xs)):Int))-1)∧((-4611686018427387904:Int)≤(oneD a).e-(oneD b).e-(p+2+(↑(blen (val (oneD b).xs)):Int)-(↑(blen (val (oneD a).xs)):Int))-1∧(oneD a).e-(oneD b).e-(p+2+(↑(blen (val (oneD b).xs)):Int)-(↑(blen (val (oneD a).xs)):Int))-1≤4611686018427387904)∧(Dx.Sm 34359738368 (mkD (!(oneD a).neg == (oneD b).neg) (val (ws (val (ws (val (ws (leftM (val (oneD a).xs) (p+2+(↑(blen (val (oneD b).xs)):Int)-(↑(blen (val (oneD a).xs)):Int))))/val (oneD b).xs))*2^1))) ((oneD a).e-(oneD b).e-(p+2+(↑(blen (val (oneD b).xs)):Int)-(↑(blen (val (oneD a).xs)):Int))-1))∧(0:Int)≤p∧p≤1099511627776)∧Q (Tv.sv (Sv.agg (dyL true (cutD (mkD (!(oneD a).neg == (oneD b).neg) (val (ws (val (ws (val (ws (leftM (val (oneD a).xs) (p+2+(↑(blen (val (oneD b).xs)):Int)-(↑(blen (val (oneD a).xs)):Int))))/val (oneD b).xs))*2^1))) ((oneD a).e-(oneD b).e-(p+2+(↑(blen (val (oneD b).xs)):Int)-(↑(blen (val (oneD a).xs)):Int))-1)) p up)))))))):=by kernel_rfl
def gOver:Spec:=specK [.d,.d,.i .i64,.b] fun (a:Dx) (b:Dx) (p:Int) (up:Bool)=>(some (a.Sm 67108864∧b.Sm 67108864∧b.m≠0∧1≤p∧p≤67108864),dT (overD a b p up))
theorem gOver_ok:SpecOk Tryz.prog 45 gOver :=
  specK_ok (envOk tys2_ok sOv_ok) mixed Tryz.func45 rfl (by decide) (by decide) fun (a:Dx) ha (b:Dx) hb (p:Int) _ (up:Bool) _ hp=>⟨fun _=>none,0,by
    obtain ⟨s1,s2,hb0,p0,p1⟩:Dx.Sm 67108864 a∧Dx.Sm 67108864 b∧Dx.m b≠0∧1≤p∧p≤67108864:=hp
    have ma:=Dx.Wf.m0 ha
    have mb:=Dx.Wf.m0 hb
    have m1:=one_m0 ma
    have m2:=one_m0 mb
    have m2p:0<(oneD b).m:=by have:=(one_m_zero mb).1;omega
    have z1:=one_sm ma s1
    have z2:=one_sm mb s2
    have hl:=one_len ma
    have f1:OneF (oneD a):=oneD_f ma
    have f2:OneF (oneD b):=oneD_f mb
    show execF _ _ _ _ _ (fun t=>t=dT (overD a b p up))
    rw [←overR_eq ma mb hb0 p0]
    show execF _ _ _ _ _ (fun t=>t=dT (overRX (oneD a) (oneD b) p up))
    refine (gOver_vc a b p up _).mpr ⟨s1.eB (by omega),s2.eB (by omega),rfl,?_⟩
    rw [hl]
    generalize oneD a=x at *
    generalize oneD b=y at *
    refine br_intro (fun h=>?_) fun h=>?_
    · rw [overRX,if_pos (of_decide_eq_true h)];rfl
    · have hx0:x.m≠0:=of_decide_eq_false h
      have hG:overRX x y p up=cutD (mkD (!(x.neg == y.neg)) (stickyM (leftM x.m (overRK x y p)/y.m) (decide (leftM x.m (overRK x y p) % y.m≠0) || leftB x.m (overRK x y p))) (x.e-y.e-overRK x y p-1)) p up:=by rw [overRX,if_neg hx0]
      rw [hG]
      have hK:overRK x y p=p+2+(blen y.m:Int)-(blen x.m:Int):=rfl
      obtain ⟨s3,s4,s5⟩:=z1
      obtain ⟨s6,s7,s8⟩:=z2
      have by0:=blen_pos m2p
      obtain ⟨hM,hMb⟩:=leftM_blen (m:=x.m) (k:=overRK x y p) (by omega) (by omega) (by omega)
      have ex:val x.xs=x.m:=rfl
      have ey:val y.xs=y.m:=rfl
      have lx:x.xs.length≤8796093022208:=by rw [f1.xs];exact ws_blen m1 (by omega)
      have ly:y.xs.length≤8796093022208:=by rw [f2.xs];exact ws_blen m2 (by omega)
      rw [ex,ey]
      rw [←hK]
      generalize overRK x y p=k at *
      generalize leftM x.m k=M at *
      generalize leftB x.m k=lo at *
      have hQ:0≤M/y.m:=Int.ediv_nonneg (by omega) m2
      have hQb:=blen_mono (m:=M/y.m) (n:=M) (Int.ediv_le_self _ (by omega))
      have hR:0≤M % y.m:=Int.emod_nonneg _ (by omega)
      have hQ2:0≤M/y.m*2^1:=by omega
      have lQ:=ws_blen (k:=8796093022206) hQ (by omega)
      rw [val_ws (show 0≤M by omega),val_ws hQ,len_pos hR,val_ws hQ2,val_ws_one,val_ws (show 0≤M/y.m*2^1+1 by omega)]
      have st1:∀ bb:Bool,(decide (M % y.m≠0) || lo)=bb→bb=true→M/y.m*2^1+1=stickyM (M/y.m) (decide (M % y.m≠0) || lo):=fun bb h1 h2=>by rw [h1,h2];rfl
      have lQ2:(ws (M/y.m*2^1)).length≤17592186044414:=by
        have:=ws_blen (n:=M/y.m*2^1) (k:=17592186044414) hQ2 (by
          by_cases h0:M/y.m=0
          · rw [h0];simp [blen]
          · rw [blen_mul_pow (by omega)];omega)
        exact this
      have sz:∀ bb:Bool,Dx.Sm 34359738368 (mkD (!x.neg == y.neg) (stickyM (M/y.m) bb) (x.e-y.e-k-1)):=fun bb=>by
        obtain ⟨t1,t2⟩:=sticky_blen (b:=bb) hQ
        exact (mkD_sm (N:=1073741824) (M:=1073741824) t1 (by omega) (by omega) (by omega)).mono (by omega)
      have e1:M/y.m*2^1+1=stickyM (M/y.m) true:=rfl
      have e0:M/y.m*2^1=stickyM (M/y.m) false:=by show _=M/y.m*2+0;omega
      refine ⟨⟨by omega,by omega⟩,⟨by omega,by omega⟩,⟨by omega,by omega⟩,rfl,⟨by omega,by omega,lx⟩,⟨m2p,by omega,ly⟩,⟨by omega,by omega,by omega⟩,br_intro (fun hr=>?_) fun hr=>br_intro (fun hlo=>?_) fun hlo=>?_⟩
      · rw [hr,Bool.true_or,e1]
        exact ⟨word_one,⟨lQ2,by simp [ws_one]⟩,⟨by omega,by omega⟩,⟨by omega,by omega⟩,⟨by omega,by omega⟩,⟨by omega,by omega⟩,⟨sz true,by omega,by omega⟩,rfl⟩
      · rw [hr,hlo,Bool.false_or,e1]
        exact ⟨word_one,⟨lQ2,by simp [ws_one]⟩,⟨by omega,by omega⟩,⟨by omega,by omega⟩,⟨by omega,by omega⟩,⟨by omega,by omega⟩,⟨sz true,by omega,by omega⟩,rfl⟩
      · rw [hr,hlo,Bool.false_or,e0]
        exact ⟨⟨by omega,by omega⟩,⟨by omega,by omega⟩,⟨by omega,by omega⟩,⟨by omega,by omega⟩,⟨sz false,by omega,by omega⟩,rfl⟩⟩
def gLess:Spec:=specK [.v,.v,.i .i64] fun (v:Vx) (u:Vx) (p:Int)=>(some (v.Sm 134217728∧u.Sm 134217728∧0≤p∧p≤1099511627776),vT (lessV v u p))
theorem gLess_vc(v u:Vx)(p:Int)(Q:Tv→Prop):execF ⟨tys2,sG3⟩ (fun _=>none) 0 Tryz.f16 [.agg (ivL false v),.agg (ivL false u),.one (.int .i64 p)] Q=((eB 4611686018427387904 u.lo∧eB 4611686018427387904 u.hi)∧(Vx.Sm 268435456 v∧Vx.Sm 268435456 (turnV u)∧(0:Int)≤p∧p≤1099511627776)∧true=true∧Q (Tv.sv (Sv.agg (ivL true (plusV v (turnV u) p))))):=by kernel_rfl
theorem gLess_ok:SpecOk Tryz.prog 16 gLess :=
  specK_ok (envOk tys2_ok sG3_ok) mixed Tryz.func16 rfl (by decide) (by decide) fun (v:Vx) hv (u:Vx) hu (p:Int) _ hp=>⟨fun _=>none,0,by
    obtain ⟨⟨a1,a2⟩,⟨b1,b2⟩,p0,p1⟩:v.Sm 134217728∧u.Sm 134217728∧0≤p∧p≤1099511627776:=hp
    have n1:=negD_sm b1 (Dx.Wf.m0 hu.1)
    have n2:=negD_sm b2 (Dx.Wf.m0 hu.2)
    exact (gLess_vc v u p _).mpr ⟨⟨b1.eB (by omega),b2.eB (by omega)⟩,⟨⟨a1.mono (by omega),a2.mono (by omega)⟩,⟨n2.mono (by omega),n1.mono (by omega)⟩,p0,p1⟩,rfl,rfl⟩⟩
def sDv:List (FuncId×Spec):=[(44,gSpan),(45,gOver)]
theorem sDv_ok:SpecsOk Tryz.prog sDv:=⟨gSpan_ok,gOver_ok,trivial⟩
def gDiv:Spec:=specK [.v,.v,.i .i64] fun (v:Vx) (u:Vx) (p:Int)=>(some (v.Sm 16777216∧u.Sm 16777216∧u.lo.m≠0∧u.hi.m≠0∧1≤p∧p≤16777216),vF (divV v u p))
theorem gDiv_vc(v u:Vx)(p:Int)(Q:Tv→Prop):execF ⟨tys2,sDv⟩ (fun _=>none) 0 Tryz.f19 [.agg (ivL false v),.agg (ivL false u),.one (.int .i64 p)] Q=((Dx.Sm 67108864 v.lo∧Dx.Sm 67108864 u.lo∧Dx.m u.lo≠0∧(1:Int)≤p∧p≤67108864)∧(Dx.Sm 67108864 v.lo∧Dx.Sm 67108864 u.hi∧Dx.m u.hi≠0∧(1:Int)≤p∧p≤67108864)∧(Dx.Sm 67108864 v.hi∧Dx.Sm 67108864 u.lo∧Dx.m u.lo≠0∧(1:Int)≤p∧p≤67108864)∧(Dx.Sm 67108864 v.hi∧Dx.Sm 67108864 u.hi∧Dx.m u.hi≠0∧(1:Int)≤p∧p≤67108864)∧true=true∧(Dx.Sm 67108864 v.lo∧Dx.Sm 67108864 u.lo∧Dx.m u.lo≠0∧(1:Int)≤p∧p≤67108864)∧(Dx.Sm 67108864 v.lo∧Dx.Sm 67108864 u.hi∧Dx.m u.hi≠0∧(1:Int)≤p∧p≤67108864)∧(Dx.Sm 67108864 v.hi∧Dx.Sm 67108864 u.lo∧Dx.m u.lo≠0∧(1:Int)≤p∧p≤67108864)∧(Dx.Sm 67108864 v.hi∧Dx.Sm 67108864 u.hi∧Dx.m u.hi≠0∧(1:Int)≤p∧p≤67108864)∧true=true∧(Dx.Sm 34359738368 (overD v.lo u.lo p false)∧Dx.Sm 34359738368 (overD v.lo u.hi p false)∧Dx.Sm 34359738368 (overD v.hi u.lo p false)∧Dx.Sm 34359738368 (overD v.hi u.hi p false))∧(Dx.Sm 34359738368 (overD v.lo u.lo p true)∧Dx.Sm 34359738368 (overD v.lo u.hi p true)∧Dx.Sm 34359738368 (overD v.hi u.lo p true)∧Dx.Sm 34359738368 (overD v.hi u.hi p true))∧Q (Tv.sv (Sv.agg (ivL false (Vx.mk (spanL (overD v.lo u.lo p false) [overD v.lo u.hi p false,overD v.hi u.lo p false,overD v.hi u.hi p false]).lo (spanL (overD v.lo u.lo p true) [overD v.lo u.hi p true,overD v.hi u.lo p true,overD v.hi u.hi p true]).hi))))):=by kernel_rfl
theorem gDiv_ok:SpecOk Tryz.prog 19 gDiv :=
  specK_ok (envOk tys2_ok sDv_ok) mixed Tryz.func19 rfl (by decide) (by decide) fun (v:Vx) hv (u:Vx) hu (p:Int) _ hp=>⟨fun _=>none,0,by
    obtain ⟨⟨a1,a2⟩,⟨b1,b2⟩,z1,z2,p0,p1⟩:v.Sm 16777216∧u.Sm 16777216∧u.lo.m≠0∧u.hi.m≠0∧1≤p∧p≤16777216:=hp
    have v1:=Dx.Wf.m0 hv.1
    have v2:=Dx.Wf.m0 hv.2
    have u1:=Dx.Wf.m0 hu.1
    have u2:=Dx.Wf.m0 hu.2
    have sz:∀ {a b:Dx} {up:Bool},0≤a.m→0≤b.m→a.Sm 16777216→b.Sm 16777216→(overD a b p up).Sm 34359738368:=fun ha hb sa sb=>(overD_sm ha hb sa sb (by omega) p1).mono (by omega)
    have k1:=a1.mono (M:=67108864) (by omega)
    have k2:=a2.mono (M:=67108864) (by omega)
    have k3:=b1.mono (M:=67108864) (by omega)
    have k4:=b2.mono (M:=67108864) (by omega)
    have kp:p≤67108864:=by omega
    exact (gDiv_vc v u p _).mpr ⟨⟨k1,k3,z1,p0,kp⟩,⟨k1,k4,z2,p0,kp⟩,⟨k2,k3,z1,p0,kp⟩,⟨k2,k4,z2,p0,kp⟩,rfl,⟨k1,k3,z1,p0,kp⟩,⟨k1,k4,z2,p0,kp⟩,⟨k2,k3,z1,p0,kp⟩,⟨k2,k4,z2,p0,kp⟩,rfl,⟨sz v1 u1 a1 b1,sz v1 u2 a1 b2,sz v2 u1 a2 b1,sz v2 u2 a2 b2⟩,⟨sz v1 u1 a1 b1,sz v1 u2 a1 b2,sz v2 u1 a2 b1,sz v2 u2 a2 b2⟩,rfl⟩⟩
def rootRK(x:Dx)(p:Int):Int:=if (x.e-(2*p+4-(blen x.m:Int))) % 2≠0 then 2*p+4-(blen x.m:Int)+1 else 2*p+4-(blen x.m:Int)
def rootRX(x:Dx)(p:Int)(up:Bool):Dx :=
  if x.m=0 then x else
  cutD (mkD false (stickyM (isq (leftM x.m (rootRK x p))) (decide (leftM x.m (rootRK x p)-isq (leftM x.m (rootRK x p))*isq (leftM x.m (rootRK x p))≠0) || leftB x.m (rootRK x p))) ((x.e-rootRK x p)/2-1)) p up
def rootR(a:Dx)(p:Int)(up:Bool):Dx:=rootRX (oneD a) p up
theorem rootR_best{a:Dx}{p:Int}(ha:0≤a.m)(hn:0≤a.rv)(hp:1≤p):DnS p a.rv (rootR a p false).rv∧UpS p a.rv (rootR a p true).rv:=by
  unfold rootR rootRX
  have m1:=oneD_p (d:=a)
  rw [←rv_one ha] at hn ⊢
  generalize oneD a=x at *
  by_cases hx0:x.m=0
  · rw [if_pos hx0,if_pos hx0,rv_zero hx0]
    exact ⟨Dn.sqrt_eq (u:=0) (by grind) (by grind) (.self (.zero p)),Up.sqrt_eq (u:=0) (by grind) (by grind) (.self (.zero p))⟩
  · rw [if_neg hx0,if_neg hx0]
    have xpos:0<x.m:=by omega
    have ex:=(rv_amt m1).1 hn
    obtain ⟨k,hk⟩:∃ k:Int,rootRK x p=k:=⟨_,rfl⟩
    have hk':(x.e-k) % 2=0∧(k=2*p+4-(blen x.m:Int)∨k=2*p+4-(blen x.m:Int)+1):=by
      rw [←hk,rootRK];split<;>omega
    rw [hk]
    obtain ⟨h,hh⟩:∃ h:Int,x.e-k=2*h:=⟨(x.e-k)/2,by omega⟩
    have eh:(x.e-k)/2-1=h-1:=by omega
    rw [eh]
    have bx:=blen_pos xpos
    obtain ⟨hM,hMb⟩:=leftM_blen (m:=x.m) (k:=k) xpos (by omega) (by omega)
    obtain ⟨f,f0,f1,hf,hf2,hf3⟩:=leftM_rv x.m k
    generalize leftM x.m k=M at *
    generalize leftB x.m k=lo at *
    have g1:=blen_ge hM
    have ea:x.rv=((M:Rat)+f)*(p2 h*p2 h):=by
      rw [ex,←hf,←p2_add,Rat.mul_assoc,←p2_add];congr 2;omega
    have v1:=isq_le (n:=M) (by omega)
    have v2:=isq_lt (n:=M) (by omega)
    have v0:=isq_nonneg M
    generalize isq M=V at *
    have hV:(2:Int)^(p-1).toNat≤V:=by
      have e1:=two_pow_le (j:=(p-1).toNat+(p-1).toNat) (k:=blen M-1) (by omega)
      rw [Int.pow_add] at e1
      have e0:=two_pow_pos (p-1).toNat
      by_cases hc:(2:Int)^(p-1).toNat≤V
      · exact hc
      · have:(V+1)*(V+1)≤2^(p-1).toNat*2^(p-1).toNat:=Int.mul_le_mul (by omega) (by omega) (by omega) (by omega)
        omega
    have hS:=(sticky_blen (q:=V) (b:=decide (M-V*V≠0) || lo) v0).1
    have best:=cutD_best (d:=mkD false (stickyM V (decide (M-V*V≠0) || lo)) (h-1)) mkD_p hp
    rw [rv_mkD hS] at best
    simp only [Bool.false_eq_true,if_false] at best
    rw [sticky_rv,show h-1+1=h by omega] at best
    have p0:=p2_pos h
    have p1:=p2_pos (h-1)
    have V0:(0:Rat)≤(V:Rat):=by
      have:=cast_le.2 v0
      have e0:((0:Int):Rat)=0:=rfl
      rwa [e0] at this
    have A0:0≤(V:Rat)*p2 h:=rmN V0 (rlL p0)
    have sqe:∀ c:Int,(c:Rat)*p2 h*((c:Rat)*p2 h)=((c*c:Int):Rat)*(p2 h*p2 h):=fun c=>by rw [rcM];grind
    have pp:=Rat.mul_pos p0 p0
    cases hb:(decide (M-V*V≠0) || lo) with
    | false =>
      rw [hb] at best
      simp only [Bool.false_eq_true,if_false,Rat.add_zero] at best
      rw [Bool.or_eq_false_iff] at hb
      have hr:M-V*V=0:=by simpa using hb.1
      have hf0:=hf2 hb.2
      have e2:x.rv=(V:Rat)*p2 h*((V:Rat)*p2 h):=by rw [ea,sqe,hf0,Rat.add_zero,show M=V*V by omega]
      exact ⟨best.1.sqrt_eq A0 e2,best.2.sqrt_eq A0 e2⟩
    | true =>
      rw [hb] at best
      simp only [if_true] at best
      have l1:((V*V:Int):Rat)<(M:Rat)+f:=by
        rcases Bool.or_eq_true_iff.1 hb with h | h
        · have hr:M-V*V≠0:=by simpa using h
          have:=cast_lt.2 (show V*V<M by omega);grind
        · have h1:=hf3 h
          have:=cast_le.2 (show V*V≤M by omega);grind
      have l2:(M:Rat)+f<(((V+1)*(V+1):Int):Rat):=by
        have:=cast_le.2 (show M+1≤(V+1)*(V+1) by omega)
        rw [rcA] at this
        have e1:((1:Int):Rat)=1:=rfl
        rw [e1] at this;grind
      have hA':(V:Rat)*p2 h*((V:Rat)*p2 h)<x.rv:=by
        rw [ea,sqe];exact (Rat.mul_lt_mul_right pp).2 l1
      have hB':x.rv<((V+1:Int):Rat)*p2 h*(((V+1:Int):Rat)*p2 h):=by
        rw [ea,sqe];exact (Rat.mul_lt_mul_right pp).2 l2
      have eB:((V+1:Int):Rat)*p2 h=(V:Rat)*p2 h+2*p2 (h-1):=by
        have:p2 h=2*p2 (h-1):=by rw [←two_p2];congr 1;omega
        rw [rcA,this]
        have e2:((1:Int):Rat)=1:=rfl
        rw [e2];grind
      have hno:∀ t,Rp p t→(V:Rat)*p2 h<t→t<((V+1:Int):Rat)*p2 h→False:=fun t ht k1 k2=>no_rp (E:=h-1) hV hp ht (by rw [show h-1+1=h by omega];exact k1) (by rw [show h-1+1=h by omega];exact k2)
      exact ⟨best.1.sqrt A0 (by grind) (by grind) hA' hB' hno,best.2.sqrt A0 (by grind) (by grind) hA' hB' hno⟩
theorem rootR_f{a:Dx}{p:Int}{up:Bool}(ha:0≤a.m):OneF (rootR a p up):=by
  unfold rootR rootRX;split
  · exact oneD_f ha
  · exact cutD_f mkD_p
theorem rootD_f{a:Dx}{p:Int}{up:Bool}(ha:0≤a.m):OneF (rootD a p up):=by
  unfold rootD rootX;split
  · exact oneD_f ha
  · exact cutD_f mkD_p
theorem rootR_eq{a:Dx}{p:Int}{up:Bool}(ha:0≤a.m)(hn:0≤a.rv)(hp:1≤p):rootR a p up=rootD a p up:=by
  have h1:=rootR_best ha hn hp
  have h2:=root_best ha hn hp
  refine (rootR_f ha).ext (rootD_f ha) ?_
  cases up
  · exact Rat.le_antisymm (h1.1.mono h2.1 (by grind)) (h2.1.mono h1.1 (by grind))
  · exact Rat.le_antisymm (h1.2.mono h2.2 (by grind)) (h2.2.mono h1.2 (by grind))
theorem root_round{n r:Int}{i:Nat}(r0:0≤r)(h1:r*r≤n)(h2:n<(r+2^(i+1))*(r+2^(i+1))) :
    ((r+2^i)*(r+2^i)≤n→n<(r+2^i+2^i)*(r+2^i+2^i)):=fun _=>by
  rw [Int.pow_succ,show r+2^i*2=r+2^i+2^i by omega] at h2
  exact h2
noncomputable abbrev cpW (w:World) (neg:Bool) (s:Value) (e:Int):World:=((w.alloc (.cells #[.bool neg,s,.int .i64 e] 25)).alloc (.cells #[.bool false,.slice none 0 0,.int .i64 0] 25)).alloc (.cells #[] 45)
def wsK:Nat→Int→List Int
  | 0,_=>[]
  | k+1,n=>if 0<n then (n % 18446744073709551616) :: wsK k (n/18446744073709551616) else []
theorem wsK_eq:∀ {k:Nat} {n:Int},n<2^k→ws n=wsK k n
  | 0,n,h=>by rw [ws_nonpos (by simp at h;omega)];rfl
  | k+1,n,h=>by
    unfold wsK
    by_cases hp:0<n
    · have p:=two_pow_pos k
      rw [Int.pow_succ] at h
      rw [ws_pos hp,if_pos hp,wsK_eq (k:=k) (by omega)]
    · rw [ws_nonpos (by omega),if_neg hp]
theorem ws_K(n:Int):ws n=wsK (blen n) n:=wsK_eq (blen_lt n)
def tzK:Nat→Nat→Nat
  | 0,_=>0
  | k+1,n=>if n=0 then 0 else if n % 2=1 then 0 else tzK k (n/2)+1
theorem tzK_eq:∀ {k n:Nat},n<2^k→tzn n=tzK k n
  | 0,n,h=>by
    obtain rfl:n=0:=by simp at h;omega
    unfold tzn tzK;rfl
  | k+1,n,h=>by
    rw [Nat.pow_succ] at h
    unfold tzK;rw [tzn,tzK_eq (k:=k) (n:=n/2) (by omega)]
theorem tz_K{n:Int}:tz n=tzK (blen n) n.toNat:=by
  unfold tz
  refine tzK_eq ?_
  have h:=blen_lt n
  by_cases h0:0≤n
  · have:(n.toNat:Int)<((2^blen n:Nat):Int):=by rw [Int.toNat_of_nonneg h0];simpa using h
    exact_mod_cast this
  · rw [Int.toNat_of_nonpos (by omega)];exact Nat.two_pow_pos _
def mkDK(neg:Bool)(m e:Int):Dx:=if m=0 then ⟨false,[],0⟩ else
  let t:=tzK (blen m) m.toNat
  let q:=m/2^t
  ⟨neg,wsK (blen q) q,e+t⟩
theorem mkD_K(neg:Bool)(m e:Int):mkD neg m e=mkDK neg m e:=by
  unfold mkD mkDK;rw [tz_K,ws_K]
def oneK(d:Dx):Dx:=mkDK d.neg d.m d.e
theorem oneD_K(d:Dx):oneD d=oneK d:=by unfold oneD oneK;rw [mkD_K]
def mkSK(s e:Int):Dx:=mkDK (decide (s<0)) (s.natAbs:Int) e
theorem mkS_K(s e:Int):mkS s e=mkSK s e:=by unfold mkS mkSK;rw [mkD_K]
def cutXK(x:Dx)(p:Int)(up:Bool):Dx :=
  let n:=(blen x.m:Int)-p
  if n≤0 then x else mkDK x.neg (x.m/2^n.toNat+if up == x.neg then 0 else 1) (x.e+n)
theorem cutX_K(x:Dx)(p:Int)(up:Bool):cutX x p up=cutXK x p up:=by unfold cutX cutXK;rw [mkD_K]
def cutK(d:Dx)(p:Int)(up:Bool):Dx:=cutXK (oneK d) p up
theorem cutD_K(x:Dx)(p:Int)(up:Bool):cutD x p up=cutK x p up:=by unfold cutD cutK;rw [cutX_K,oneD_K]
def overXK(x y:Dx)(p:Int)(up:Bool):Dx :=
  if x.m=0 then ⟨false,[],0⟩ else
  let k:=max (p+2+blen y.m-blen x.m) 0
  let M:=x.m*2^k.toNat
  cutK (mkDK (!(x.neg == y.neg)) (stickyM (M/y.m) (decide (M % y.m≠0))) (x.e-y.e-k-1)) p up
theorem overX_K(x y:Dx)(p:Int)(up:Bool):overX x y p up=overXK x y p up:=by unfold overX overXK;rw [mkD_K,cutD_K]
def overK(a b:Dx)(p:Int)(up:Bool):Dx:=overXK (oneK a) (oneK b) p up
theorem overD_K(a b:Dx)(p:Int)(up:Bool):overD a b p up=overK a b p up:=by unfold overD overK;rw [overX_K,oneD_K,oneD_K]
def plusXK(x y:Dx):Dx :=
  if x.m=0 then y else if y.m=0 then x else
  let e:=min x.e y.e
  mkSK (x.sm*2^(x.e-e).toNat+y.sm*2^(y.e-e).toNat) e
theorem plusX_K(x y:Dx):plusX x y=plusXK x y:=by unfold plusX plusXK;rw [mkS_K]
def plusK(a b:Dx):Dx:=plusXK (oneK a) (oneK b)
theorem plusD_K(a b:Dx):plusD a b=plusK a b:=by unfold plusD plusK;rw [plusX_K,oneD_K,oneD_K]
def fitsK(d:Dx):Bool:=decide ((wsK (blen d.m) d.m).length≤1024) && decide (-32768≤d.e) && decide (d.e≤32768)
def rightK(v:Vx):Bool:=fitsK v.lo && (fitsK v.hi && decide (cmpD v.lo v.hi≤0))
theorem great_K(m:Int):(!greatB m)=decide ((wsK (blen m) m).length≤1024):=by
  unfold greatB;rw [←ws_K]
  by_cases h:(ws m).length≤1024
  · rw [decide_eq_true h,decide_eq_false (by omega)];rfl
  · rw [decide_eq_false h,decide_eq_true (by omega)];rfl
theorem fits_K(d:Dx):d.fitsB=fitsK d:=by unfold Dx.fitsB fitsK;rw [great_K]
theorem right_K(v:Vx):rightV v=rightK v:=by unfold rightV rightK;rw [fits_K,fits_K]
def roomK(v:Vx):Vx×Int:=if (fitsK v.lo && fitsK v.hi)=true then (v,0) else (zeroIv,3)
theorem room_K(v:Vx):roomR v=roomK v:=by unfold roomR roomK;rw [fits_K,fits_K]
def doK(v u:Vx)(p wrong:Int)(X:Vx):Vx×Int:=whenR (rightK v && (rightK u && (leI 1 p && leI p 8192))) (if neI wrong 0=true then (zeroIv,wrong) else roomK X)
theorem do_K(v u:Vx)(p wrong:Int)(X:Vx):doR v u p wrong X=doK v u p wrong X:=by unfold doR doK;rw [right_K,right_K,room_K]
def trimK(v:Vx)(p:Int):Vx:=⟨cutK v.lo p false,cutK v.hi p true⟩
theorem trim_K(v:Vx)(p:Int):trimV v p=trimK v p:=by unfold trimV trimK;rw [cutD_K,cutD_K]
def ivAddK(v u:Vx)(p:Int):Vx×Int:=doK v u p 0 (trimK ⟨plusK v.lo u.lo,plusK v.hi u.hi⟩ p)
theorem ivAdd_K(v u:Vx)(p:Int):ivAdd v u p=ivAddK v u p:=by unfold ivAdd plusV sumV ivAddK;rw [do_K,trim_K,plusD_K,plusD_K]
def quoK(v u:Vx)(p:Int)(up:Bool):Vx:=spanL (overK v.lo u.lo p up) [overK v.lo u.hi p up,overK v.hi u.lo p up,overK v.hi u.hi p up]
theorem quo_K(v u:Vx)(p:Int)(up:Bool):quoV v u p up=quoK v u p up:=by unfold quoV quoK;simp only [overD_K]
def ivDivK(v u:Vx)(p:Int):Vx×Int:=doK v u p (wrongZ u) ⟨(quoK v u p false).lo,(quoK v u p true).hi⟩
theorem ivDiv_K(v u:Vx)(p:Int):ivDiv v u p=ivDivK v u p:=by unfold ivDiv divV ivDivK;rw [do_K,quo_K,quo_K]
def signK(v:Vx):Int×Bool:=if rightK v=true then (if 0<v.lo.sgn then (1,true) else if v.hi.sgn<0 then (-1,true) else (0,eqI v.lo.sgn 0 && eqI v.hi.sgn 0)) else (0,false)
theorem sign_K(v:Vx):signV v=signK v:=by unfold signV signK;rw [right_K]
def meetsK(v u:Vx):Bool:=rightK v && (rightK u && (leI (cmpD v.lo u.hi) 0 && leI (cmpD u.lo v.hi) 0))
theorem meets_K(v u:Vx):meetsV v u=meetsK v u:=by unfold meetsV meetsK;rw [right_K,right_K]
theorem beg1:ivDiv ⟨mkS 1 0,mkS 1 0⟩ ⟨mkS 3 0,mkS 3 0⟩ 2=(⟨⟨false,[1],-2⟩,⟨false,[3],-3⟩⟩,0):=by
  rw [ivDiv_K,mkS_K,mkS_K];kernel_rfl
theorem beg2:ivAdd ⟨mkS 1 0,mkS 2 0⟩ ⟨mkS 3 0,mkS 3 0⟩ 2=(⟨⟨false,[1],2⟩,⟨false,[3],1⟩⟩,0):=by
  rw [ivAdd_K,mkS_K,mkS_K,mkS_K];kernel_rfl
theorem beg3:(⟨mkS 4 0,mkS 6 0⟩:Vx)=⟨⟨false,[1],2⟩,⟨false,[3],1⟩⟩:=by
  rw [mkS_K,mkS_K];kernel_rfl
theorem beg4:signV ⟨⟨false,[1],2⟩,⟨false,[3],1⟩⟩=(1,true):=by rw [sign_K];kernel_rfl
theorem beg5:meetsV ⟨⟨false,[1],-2⟩,⟨false,[3],-3⟩⟩ ⟨⟨false,[1],-2⟩,⟨false,[3],-3⟩⟩=true:=by rw [meets_K];kernel_rfl
def lBeg:Spec:=specK [] (none,bT true)
def wI(f:Int→Dx):Spec:=specK [.i .i64] fun (n:Int)=>(some (inR n),dT (f n))
def wVV(f:Vx→Vx→Int→Vx×Int):Spec:=specK [.v,.v,.i .i64] fun (v:Vx) (u:Vx) (p:Int)=>(none,reT (f v u p))
def wB(f:Vx→Vx→Bool):Spec:=specK [.v,.v] fun (v:Vx) (u:Vx)=>(none,bT (f v u))
def wS(f:Vx→Int×Bool):Spec:=specK [.v] fun (v:Vx)=>(none,sgT (f v))
def sBeg(fI:Int→Dx)(fD fA:Vx→Vx→Int→Vx×Int)(fS fM:Vx→Vx→Bool)(fG:Vx→Int×Bool):List (FuncId×Spec) :=
  [(23,wI fI),(11,wVV fD),(8,wVV fA),(6,wB fS),(25,wB fM),(24,wS fG)]
theorem sBeg_ok:SpecsOk Tryz.prog (sBeg (fun n=>mkS n 0) ivDiv ivAdd sameV meetsV signV):=⟨fInt_ok,vXDiv_ok,vXAdd_ok,gSame_ok,vMe_ok,vSi_ok,trivial⟩
theorem lBeg_vc(fI:Int→Dx)(fD fA:Vx→Vx→Int→Vx×Int)(fS fM:Vx→Vx→Bool)(fG:Vx→Int×Bool)(Q:Tv→Prop):execF ⟨tys2,sBeg fI fD fA fS fM fG⟩ (fun _=>none) 0 Tryz.f7 [] Q=(inR 1∧inR 1∧inR 3∧inR 3∧inR 1∧inR 2∧true=true∧br (eqI (fD (Vx.mk (fI 1) (fI 1)) (Vx.mk (fI 3) (fI 3)) 2).snd 0) (Words [1]∧Words [3]∧br (fS (fD (Vx.mk (fI 1) (fI 1)) (Vx.mk (fI 3) (fI 3)) 2).fst (Vx.mk (Dx.mk false [1] (-2)) (Dx.mk false [3] (-3)))) (br (eqI (fA (Vx.mk (fI 1) (fI 2)) (Vx.mk (fI 3) (fI 3)) 2).snd 0) (inR 4∧inR 6∧br (fS (fA (Vx.mk (fI 1) (fI 2)) (Vx.mk (fI 3) (fI 3)) 2).fst (Vx.mk (fI 4) (fI 6))) (br (fG (fA (Vx.mk (fI 1) (fI 2)) (Vx.mk (fI 3) (fI 3)) 2).fst).snd (br (eqI (fG (fA (Vx.mk (fI 1) (fI 2)) (Vx.mk (fI 3) (fI 3)) 2).fst).fst 1) (true=true∧Q (Tv.sv (Sv.one (At.bool (fM (fD (Vx.mk (fI 1) (fI 1)) (Vx.mk (fI 3) (fI 3)) 2).fst (fD (Vx.mk (fI 1) (fI 1)) (Vx.mk (fI 3) (fI 3)) 2).fst))))) (true=true∧Q (Tv.sv (Sv.one (At.bool false))))) (true=true∧Q (Tv.sv (Sv.one (At.bool false))))) (true=true∧Q (Tv.sv (Sv.one (At.bool false))))) (true=true∧Q (Tv.sv (Sv.one (At.bool false))))) (true=true∧Q (Tv.sv (Sv.one (At.bool false))))) (true=true∧Q (Tv.sv (Sv.one (At.bool false))))):=by kernel_rfl
theorem br_t{b:Bool}{p q:Prop}(h:b=true)(hp:p):br b p q:=by subst h;exact hp
theorem lBeg_ok:SpecOk Tryz.prog 7 lBeg :=
  specK_ok (envOk tys2_ok sBeg_ok) mixed Tryz.func7 rfl (by decide) (by decide) fun _=>⟨fun _=>none,0,by
    show execF _ _ _ _ _ (fun t=>t=bT true)
    refine (lBeg_vc _ _ _ _ _ _ _).mpr ?_
    simp only [beg1,beg2,beg3,beg4,beg5]
    exact ⟨⟨by decide,by decide⟩,⟨by decide,by decide⟩,⟨by decide,by decide⟩,⟨by decide,by decide⟩,⟨by decide,by decide⟩,⟨by decide,by decide⟩,trivial,br_t rfl ⟨by simp [Words,Word],by simp [Words,Word],br_t rfl (br_t rfl ⟨⟨by decide,by decide⟩,⟨by decide,by decide⟩,br_t rfl (br_t rfl (br_t rfl ⟨trivial,trivial⟩))⟩)⟩⟩⟩
theorem sameD_refl(d:Dx):sameD d d=true:=by simp [sameD,eqI]
theorem sameV_refl(v:Vx):sameV v v=true:=by rw [sameV,sameD_refl,sameD_refl];rfl
theorem nPow_vc(xs:List Int)(Q:Tv→Prop):execF ⟨tys2,sRef4⟩ (fun _=>none) 5 Tryz.f99 [.one (.words false xs),.one (.int .i64 2)] Q=(Word 1∧List.length (ws (val (ws 1)))+List.length (ws (val xs))≤17592186044414∧inR ((0:Int)+1)∧List.length (ws (val (ws (val (ws 1)*val xs))))+List.length (ws (val xs))≤17592186044414∧inR ((0:Int)+1+1)∧Q (Tv.sv (Sv.one (At.words true (ws (val (ws (val (ws 1)*val xs))*val xs)))))):=by kernel_rfl
def nPow:Spec:=specK [.w,.i .i64] fun (xs:List Int) (n:Int)=>(some (n=2∧blen (val xs)≤1073741824),wT (ws (val xs*val xs)))
def sRo:List (FuncId×Spec):=(99,nPow) :: sRef4
def roK:LKeep:=⟨[0,1,6,7],[],9⟩
def roSt(xs:List Int)(a:Nat×Int):List (Nat×Tv)×List (Nat×Nat×At):=([(0,.sv (.one (.words false xs))),(1,iT 2),(6,wT (ws a.2)),(7,iT ((a.1:Int)-1))],[])
def roInv(xs:List Int)(P:Nat×Int→Prop):Nat→Option LInv:=invAt 3 (.rel roK (Nat×Int) (roSt xs) P (fun a=>a.1))
theorem nRoot_vc(xs:List Int)(P:Nat×Int→Prop)(Q:Tv→Prop):execF ⟨tys2,sRo⟩ (roInv xs P) 0 Tryz.f77 [.one (.words false xs),.one (.int .i64 2)] Q=(((2:Int)≠0∧inR (Int.tdiv (↑(blen (val xs)):Int) 2))∧true=true∧(∃ (a:Nat×Int),P a∧Sg.mk [(0,Tv.sv (Sv.one (At.words false xs))),(1,iT 2),(6,Tv.sv (Sv.one (At.words true []))),(7,iT (Int.tdiv (↑(blen (val xs)):Int) 2))] [] 9=LKeep.at roK (roSt xs a))∧∀ (a:Nat×Int),P a→br (leI 0 ((↑a.fst:Int)-1)) (Word 1∧((0:Int)≤(↑a.fst:Int)-1∧(↑a.fst:Int)-1≤1099511627776∧List.length (ws 1)≤8796093022208)∧(List.length (ws a.snd)≤17592186044414∧List.length (ws (val (ws 1)*2^Int.toNat ((↑a.fst:Int)-1)))≤17592186044414)∧((2:Int)=(2:Int)∧blen (val (ws (val (ws a.snd)+val (ws (val (ws 1)*2^Int.toNat ((↑a.fst:Int)-1))))))≤1073741824)∧br (leI (cmpI (val (ws (val (ws (val (ws a.snd)+val (ws (val (ws 1)*2^Int.toNat ((↑a.fst:Int)-1)))))*val (ws (val (ws a.snd)+val (ws (val (ws 1)*2^Int.toNat ((↑a.fst:Int)-1)))))))) (val xs)) 0) (inR ((↑a.fst:Int)-1-1)∧true=true∧∃ (a':Nat×Int),P a'∧Sg.mk [(0,Tv.sv (Sv.one (At.words false xs))),(1,iT 2),(6,Tv.sv (Sv.one (At.words true (ws (val (ws a.snd)+val (ws (val (ws 1)*2^Int.toNat ((↑a.fst:Int)-1)))))))),(7,iT ((↑a.fst:Int)-1-1))] [] 9=LKeep.at roK (roSt xs a')∧a'.fst<a.fst) (inR ((↑a.fst:Int)-1-1)∧true=true∧∃ (a':Nat×Int),P a'∧Sg.mk [(0,Tv.sv (Sv.one (At.words false xs))),(1,iT 2),(6,Tv.sv (Sv.one (At.words true (ws a.snd)))),(7,iT ((↑a.fst:Int)-1-1))] [] 9=LKeep.at roK (roSt xs a')∧a'.fst<a.fst)) (((2:Int)=(2:Int)∧blen (val (ws a.snd))≤1073741824)∧(val (ws (val (ws a.snd)*val (ws a.snd)))≤val xs∧List.length xs≤17592186044414∧List.length (ws (val (ws a.snd)*val (ws a.snd)))≤17592186044414)∧Q (Tv.tup [Sv.one (At.words true (ws a.snd)),Sv.one (At.words true (ws (val xs-val (ws (val (ws a.snd)*val (ws a.snd))))))]))):=by kernel_rfl
def rootN(n:Int):Tv:=.tup [.one (.words true (ws (isq n))),.one (.words true (ws (n-isq n*isq n)))]
def nRoot:Spec:=specK [.w,.i .i64] fun (xs:List Int) (k:Int)=>(some (k=2∧xs.length≤8796093022207∧blen (val xs)≤1073741820),rootN (val xs))
def sRt:List (FuncId×Spec):=[(77,nRoot),(74,gLeft)] ++ sRef4
theorem gRoot_vc(a:Dx)(p:Int)(up:Bool)(Q:Tv→Prop):execF ⟨tys2,sRt⟩ (fun _=>none) 0 Tryz.f47 [.agg (dyL false a),.one (.int .i64 p),.one (.bool up)] Q=(eB 4611686018427387904 a∧br (eqI (↑(List.length (oneD a).xs):Int) 0) (Q (Tv.sv (Sv.agg (dyL true (oneD a))))) (inR ((2:Int)*p)∧inR ((2:Int)*p+4)∧inR ((2:Int)*p+4-(↑(blen (val (oneD a).xs)):Int))∧inR ((oneD a).e-((2:Int)*p+4-(↑(blen (val (oneD a).xs)):Int)))∧(2:Int)≠0∧br (neI (Int.tmod ((oneD a).e-((2:Int)*p+4-(↑(blen (val (oneD a).xs)):Int))) 2) 0) (inR ((2:Int)*p+4-(↑(blen (val (oneD a).xs)):Int)+1)∧((2:Int)*p+4-(↑(blen (val (oneD a).xs)):Int)+1≤1099511627776∧(-9007199254740992:Int)≤2*p+4-(↑(blen (val (oneD a).xs)):Int)+1∧List.length (oneD a).xs≤8796093022208)∧((2:Int)=(2:Int)∧List.length (ws (leftM (val (oneD a).xs) ((2:Int)*p+4-(↑(blen (val (oneD a).xs)):Int)+1)))≤8796093022207∧blen (val (ws (leftM (val (oneD a).xs) ((2:Int)*p+4-(↑(blen (val (oneD a).xs)):Int)+1))))≤1073741820)∧((0:Int)≤1∧(1:Int)≤1099511627776∧List.length (ws (isq (val (ws (leftM (val (oneD a).xs) ((2:Int)*p+4-(↑(blen (val (oneD a).xs)):Int)+1))))))≤8796093022208)∧br (ltI 0 (↑(List.length (ws (val (ws (leftM (val (oneD a).xs) ((2:Int)*p+4-(↑(blen (val (oneD a).xs)):Int)+1)))-isq (val (ws (leftM (val (oneD a).xs) ((2:Int)*p+4-(↑(blen (val (oneD a).xs)):Int)+1))))*isq (val (ws (leftM (val (oneD a).xs) ((2:Int)*p+4-(↑(blen (val (oneD a).xs)):Int)+1))))))):Int)) (Word 1∧(List.length (ws (val (ws (isq (val (ws (leftM (val (oneD a).xs) ((2:Int)*p+4-(↑(blen (val (oneD a).xs)):Int)+1))))))*2^1))≤17592186044414∧List.length (ws 1)≤17592186044414)∧inR ((oneD a).e-((2:Int)*p+4-(↑(blen (val (oneD a).xs)):Int)+1))∧((2:Int)≠0∧inR (Int.tdiv ((oneD a).e-((2:Int)*p+4-(↑(blen (val (oneD a).xs)):Int)+1)) 2))∧inR (Int.tdiv ((oneD a).e-((2:Int)*p+4-(↑(blen (val (oneD a).xs)):Int)+1)) 2-1)∧((-4611686018427387904:Int)≤Int.tdiv ((oneD a).e-((2:Int)*p+4-(↑(blen (val (oneD a).xs)):Int)+1)) 2-1∧Int.tdiv ((oneD a).e-((2:Int)*p+4-(↑(blen (val (oneD a).xs)):Int)+1)) 2-1≤4611686018427387904)∧(Dx.Sm 34359738368 (mkD false (val (ws (val (ws (val (ws (isq (val (ws (leftM (val (oneD a).xs) ((2:Int)*p+4-(↑(blen (val (oneD a).xs)):Int)+1))))))*2^1))+val (ws 1)))) (Int.tdiv ((oneD a).e-((2:Int)*p+4-(↑(blen (val (oneD a).xs)):Int)+1)) 2-1))∧(0:Int)≤p∧p≤1099511627776)∧Q (Tv.sv (Sv.agg (dyL true (cutD (mkD false (val (ws (val (ws (val (ws (isq (val (ws (leftM (val (oneD a).xs) ((2:Int)*p+4-(↑(blen (val (oneD a).xs)):Int)+1))))))*2^1))+val (ws 1)))) (Int.tdiv ((oneD a).e-((2:Int)*p+4-(↑(blen (val (oneD a).xs)):Int)+1)) 2-1)) p up))))) (br (leftB (val (oneD a).xs) ((2:Int)*p+4-(↑(blen (val (oneD a).xs)):Int)+1)) (Word 1∧(List.length (ws (val (ws (isq (val (ws (leftM (val (oneD a).xs) ((2:Int)*p+4-(↑(blen (val (oneD a).xs)):Int)+1))))))*2^1))≤17592186044414∧List.length (ws 1)≤17592186044414)∧inR ((oneD a).e-((2:Int)*p+4-(↑(blen (val (oneD a).xs)):Int)+1))∧((2:Int)≠0∧inR (Int.tdiv ((oneD a).e-((2:Int)*p+4-(↑(blen (val (oneD a).xs)):Int)+1)) 2))∧inR (Int.tdiv ((oneD a).e-((2:Int)*p+4-(↑(blen (val (oneD a).xs)):Int)+1)) 2-1)∧((-4611686018427387904:Int)≤Int.tdiv ((oneD a).e-((2:Int)*p+4-(↑(blen (val (oneD a).xs)):Int)+1)) 2-1∧Int.tdiv ((oneD a).e-((2:Int)*p+4-(↑(blen (val (oneD a).xs)):Int)+1)) 2-1≤4611686018427387904)∧(Dx.Sm 34359738368 (mkD false (val (ws (val (ws (val (ws (isq (val (ws (leftM (val (oneD a).xs) ((2:Int)*p+4-(↑(blen (val (oneD a).xs)):Int)+1))))))*2^1))+val (ws 1)))) (Int.tdiv ((oneD a).e-((2:Int)*p+4-(↑(blen (val (oneD a).xs)):Int)+1)) 2-1))∧(0:Int)≤p∧p≤1099511627776)∧Q (Tv.sv (Sv.agg (dyL true (cutD (mkD false (val (ws (val (ws (val (ws (isq (val (ws (leftM (val (oneD a).xs) ((2:Int)*p+4-(↑(blen (val (oneD a).xs)):Int)+1))))))*2^1))+val (ws 1)))) (Int.tdiv ((oneD a).e-((2:Int)*p+4-(↑(blen (val (oneD a).xs)):Int)+1)) 2-1)) p up))))) (inR ((oneD a).e-((2:Int)*p+4-(↑(blen (val (oneD a).xs)):Int)+1))∧((2:Int)≠0∧inR (Int.tdiv ((oneD a).e-((2:Int)*p+4-(↑(blen (val (oneD a).xs)):Int)+1)) 2))∧inR (Int.tdiv ((oneD a).e-((2:Int)*p+4-(↑(blen (val (oneD a).xs)):Int)+1)) 2-1)∧((-4611686018427387904:Int)≤Int.tdiv ((oneD a).e-((2:Int)*p+4-(↑(blen (val (oneD a).xs)):Int)+1)) 2-1∧Int.tdiv ((oneD a).e-((2:Int)*p+4-(↑(blen (val (oneD a).xs)):Int)+1)) 2-1≤4611686018427387904)∧(Dx.Sm 34359738368 (mkD false (val (ws (val (ws (isq (val (ws (leftM (val (oneD a).xs) ((2:Int)*p+4-(↑(blen (val (oneD a).xs)):Int)+1))))))*2^1))) (Int.tdiv ((oneD a).e-((2:Int)*p+4-(↑(blen (val (oneD a).xs)):Int)+1)) 2-1))∧(0:Int)≤p∧p≤1099511627776)∧Q (Tv.sv (Sv.agg (dyL true (cutD (mkD false (val (ws (val (ws (isq (val (ws (leftM (val (oneD a).xs) ((2:Int)*p+4-(↑(blen (val (oneD a).xs)):Int)+1))))))*2^1))) (Int.tdiv ((oneD a).e-((2:Int)*p+4-(↑(blen (val (oneD a).xs)):Int)+1)) 2-1)) p up))))))) (((2:Int)*p+4-(↑(blen (val (oneD a).xs)):Int)≤1099511627776∧(-9007199254740992:Int)≤2*p+4-(↑(blen (val (oneD a).xs)):Int)∧List.length (oneD a).xs≤8796093022208)∧((2:Int)=(2:Int)∧List.length (ws (leftM (val (oneD a).xs) ((2:Int)*p+4-(↑(blen (val (oneD a).xs)):Int))))≤8796093022207∧blen (val (ws (leftM (val (oneD a).xs) ((2:Int)*p+4-(↑(blen (val (oneD a).xs)):Int)))))≤1073741820)∧((0:Int)≤1∧(1:Int)≤1099511627776∧List.length (ws (isq (val (ws (leftM (val (oneD a).xs) ((2:Int)*p+4-(↑(blen (val (oneD a).xs)):Int)))))))≤8796093022208)∧br (ltI 0 (↑(List.length (ws (val (ws (leftM (val (oneD a).xs) ((2:Int)*p+4-(↑(blen (val (oneD a).xs)):Int))))-isq (val (ws (leftM (val (oneD a).xs) ((2:Int)*p+4-(↑(blen (val (oneD a).xs)):Int)))))*isq (val (ws (leftM (val (oneD a).xs) ((2:Int)*p+4-(↑(blen (val (oneD a).xs)):Int)))))))):Int)) (Word 1∧(List.length (ws (val (ws (isq (val (ws (leftM (val (oneD a).xs) ((2:Int)*p+4-(↑(blen (val (oneD a).xs)):Int)))))))*2^1))≤17592186044414∧List.length (ws 1)≤17592186044414)∧inR ((oneD a).e-((2:Int)*p+4-(↑(blen (val (oneD a).xs)):Int)))∧((2:Int)≠0∧inR (Int.tdiv ((oneD a).e-((2:Int)*p+4-(↑(blen (val (oneD a).xs)):Int))) 2))∧inR (Int.tdiv ((oneD a).e-((2:Int)*p+4-(↑(blen (val (oneD a).xs)):Int))) 2-1)∧((-4611686018427387904:Int)≤Int.tdiv ((oneD a).e-((2:Int)*p+4-(↑(blen (val (oneD a).xs)):Int))) 2-1∧Int.tdiv ((oneD a).e-((2:Int)*p+4-(↑(blen (val (oneD a).xs)):Int))) 2-1≤4611686018427387904)∧(Dx.Sm 34359738368 (mkD false (val (ws (val (ws (val (ws (isq (val (ws (leftM (val (oneD a).xs) ((2:Int)*p+4-(↑(blen (val (oneD a).xs)):Int)))))))*2^1))+val (ws 1)))) (Int.tdiv ((oneD a).e-((2:Int)*p+4-(↑(blen (val (oneD a).xs)):Int))) 2-1))∧(0:Int)≤p∧p≤1099511627776)∧Q (Tv.sv (Sv.agg (dyL true (cutD (mkD false (val (ws (val (ws (val (ws (isq (val (ws (leftM (val (oneD a).xs) ((2:Int)*p+4-(↑(blen (val (oneD a).xs)):Int)))))))*2^1))+val (ws 1)))) (Int.tdiv ((oneD a).e-((2:Int)*p+4-(↑(blen (val (oneD a).xs)):Int))) 2-1)) p up))))) (br (leftB (val (oneD a).xs) ((2:Int)*p+4-(↑(blen (val (oneD a).xs)):Int))) (Word 1∧(List.length (ws (val (ws (isq (val (ws (leftM (val (oneD a).xs) ((2:Int)*p+4-(↑(blen (val (oneD a).xs)):Int)))))))*2^1))≤17592186044414∧List.length (ws 1)≤17592186044414)∧inR ((oneD a).e-((2:Int)*p+4-(↑(blen (val (oneD a).xs)):Int)))∧((2:Int)≠0∧inR (Int.tdiv ((oneD a).e-((2:Int)*p+4-(↑(blen (val (oneD a).xs)):Int))) 2))∧inR (Int.tdiv ((oneD a).e-((2:Int)*p+4-(↑(blen (val (oneD a).xs)):Int))) 2-1)∧((-4611686018427387904:Int)≤Int.tdiv ((oneD a).e-((2:Int)*p+4-(↑(blen (val (oneD a).xs)):Int))) 2-1∧Int.tdiv ((oneD a).e-((2:Int)*p+4-(↑(blen (val (oneD a).xs)):Int))) 2-1≤4611686018427387904)∧(Dx.Sm 34359738368 (mkD false (val (ws (val (ws (val (ws (isq (val (ws (leftM (val (oneD a).xs) ((2:Int)*p+4-(↑(blen (val (oneD a).xs)):Int)))))))*2^1))+val (ws 1)))) (Int.tdiv ((oneD a).e-((2:Int)*p+4-(↑(blen (val (oneD a).xs)):Int))) 2-1))∧(0:Int)≤p∧p≤1099511627776)∧Q (Tv.sv (Sv.agg (dyL true (cutD (mkD false (val (ws (val (ws (val (ws (isq (val (ws (leftM (val (oneD a).xs) ((2:Int)*p+4-(↑(blen (val (oneD a).xs)):Int)))))))*2^1))+val (ws 1)))) (Int.tdiv ((oneD a).e-((2:Int)*p+4-(↑(blen (val (oneD a).xs)):Int))) 2-1)) p up))))) (inR ((oneD a).e-((2:Int)*p+4-(↑(blen (val (oneD a).xs)):Int)))∧((2:Int)≠0∧inR (Int.tdiv ((oneD a).e-((2:Int)*p+4-(↑(blen (val (oneD a).xs)):Int))) 2))∧inR (Int.tdiv ((oneD a).e-((2:Int)*p+4-(↑(blen (val (oneD a).xs)):Int))) 2-1)∧((-4611686018427387904:Int)≤Int.tdiv ((oneD a).e-((2:Int)*p+4-(↑(blen (val (oneD a).xs)):Int))) 2-1∧Int.tdiv ((oneD a).e-((2:Int)*p+4-(↑(blen (val (oneD a).xs)):Int))) 2-1≤4611686018427387904)∧(Dx.Sm 34359738368 (mkD false (val (ws (val (ws (isq (val (ws (leftM (val (oneD a).xs) ((2:Int)*p+4-(↑(blen (val (oneD a).xs)):Int)))))))*2^1))) (Int.tdiv ((oneD a).e-((2:Int)*p+4-(↑(blen (val (oneD a).xs)):Int))) 2-1))∧(0:Int)≤p∧p≤1099511627776)∧Q (Tv.sv (Sv.agg (dyL true (cutD (mkD false (val (ws (val (ws (isq (val (ws (leftM (val (oneD a).xs) ((2:Int)*p+4-(↑(blen (val (oneD a).xs)):Int)))))))*2^1))) (Int.tdiv ((oneD a).e-((2:Int)*p+4-(↑(blen (val (oneD a).xs)):Int))) 2-1)) p up))))))))):=by kernel_rfl
def gRoot:Spec:=specK [.d,.i .i64,.b] fun (a:Dx) (p:Int) (up:Bool)=>(some (a.Sm 67108864∧1≤p∧p≤67108864),dT (rootR a p up))
def sSq:List (FuncId×Spec):=[(47,gRoot)]
theorem gSqrt_vc(v:Vx)(p:Int)(Q:Tv→Prop):execF ⟨tys2,sSq⟩ (fun _=>none) 0 Tryz.f21 [.agg (ivL false v),.one (.int .i64 p)] Q=((Dx.Sm 67108864 v.lo∧(1:Int)≤p∧p≤67108864)∧(Dx.Sm 67108864 v.hi∧(1:Int)≤p∧p≤67108864)∧true=true∧Q (Tv.sv (Sv.agg (ivL true (Vx.mk (rootR v.lo p false) (rootR v.hi p true)))))):=by kernel_rfl
def sqrtRV(v:Vx)(p:Int):Vx:=⟨rootR v.lo p false,rootR v.hi p true⟩
def gSqrt:Spec:=specK [.v,.i .i64] fun (v:Vx) (p:Int)=>(some (v.Sm 67108864∧1≤p∧p≤67108864),vT (sqrtRV v p))
theorem nPow_ok:SpecOk Tryz.prog 99 nPow :=
  specK_ok (envOk tys2_ok sRef4_ok) mixed Tryz.func99 rfl (by decide) (by decide) fun (xs:List Int) hx (n:Int) _ hp=>⟨fun _=>none,5,by
    obtain ⟨rfl,hb⟩:n=2∧blen (val xs)≤1073741824:=hp
    have v0:=WfW.val0 hx
    have l1:=ws_blen (n:=val xs) (k:=16777217) v0 (by omega)
    show execF _ _ _ _ _ (fun t=>t=wT (ws (val xs*val xs)))
    refine (nPow_vc xs _).mpr ?_
    rw [val_ws_one,Int.one_mul,val_ws v0]
    exact ⟨word_one,by simp [ws_one];omega,⟨by omega,by omega⟩,by omega,⟨by omega,by omega⟩,rfl⟩⟩
theorem sRo_ok:SpecsOk Tryz.prog sRo:=⟨nPow_ok,sRef4_ok⟩
theorem blen_root{r n:Int}{N i:Nat}(_:0≤r)(h:r≤n)(hb:blen n≤N)(hi:i≤N):blen (r+2^i)≤N+1:=by
  refine blen_le ?_
  have h1:=blen_lt n
  have h2:(2:Int)^blen n≤2^N:=two_pow_le hb
  have h3:(2:Int)^i≤2^N:=two_pow_le hi
  rw [Int.pow_succ];omega
theorem cmpI_le{a b:Int}:leI (cmpI a b) 0=decide (a≤b):=by
  rcases cmpI_cases a b with ⟨h,k⟩|⟨h,k⟩|⟨h,k⟩<;>rw [h]
  · rw [decide_eq_true (by omega)];rfl
  · rw [decide_eq_true (by omega)];rfl
  · rw [decide_eq_false (by omega)];rfl
theorem sq_le_self{r n:Int}(h0:0≤r)(h:r*r≤n):r≤n:=by
  by_cases z:r=0
  · rw [z] at h ⊢;omega
  · have:=imL (show 1≤r by omega) h0
    omega
theorem nRoot_ok:SpecOk Tryz.prog 77 nRoot :=
  specK_ok (envOk tys2_ok sRo_ok) mixed Tryz.func77 rfl (by decide) (by decide) fun (xs:List Int) hx (k:Int) _ hp=>by
    obtain ⟨rfl,hl,hb⟩:k=2∧xs.length≤8796093022207∧blen (val xs)≤1073741820:=hp
    have n0:=WfW.val0 hx
    refine ⟨roInv xs (fun a=>a.1≤1073741821∧0≤a.2∧a.2*a.2≤val xs∧val xs<(a.2+2^a.1)*(a.2+2^a.1)),0,?_⟩
    show execF _ _ _ _ _ (fun t=>t=rootN (val xs))
    refine (nRoot_vc xs _ _).mpr ?_
    generalize val xs=n at *
    have et:Int.tdiv (blen n:Int) 2=(blen n:Int)/2:=Int.tdiv_eq_ediv_of_nonneg (by omega)
    rw [et]
    refine ⟨⟨by omega,⟨by omega,by omega⟩⟩,rfl,⟨(blen n/2+1,0),⟨?_,by omega,by simpa using n0,?_⟩,?_⟩,fun a ha=>?_⟩
    · show blen n/2+1≤1073741821;omega
    · show n<(0+2^(blen n/2+1))*(0+2^(blen n/2+1))
      rw [Int.zero_add,←Int.pow_add]
      exact Int.lt_of_lt_of_le (blen_lt n) (two_pow_le (by omega))
    · unfold LKeep.at roSt
      rw [ws_zero]
      show Sg.mk _ _ _=Sg.mk [(0,Tv.sv (Sv.one (At.words false xs))),(1,iT 2),(6,wT []),(7,iT (((blen n/2+1:Nat):Int)-1))] [] 9
      rw [show ((blen n/2+1:Nat):Int)-1=(blen n:Int)/2 by omega]
    · obtain ⟨j,r⟩:=a
      obtain ⟨hj,r0,r1,r2⟩:j≤1073741821∧0≤r∧r*r≤n∧n<(r+2^j)*(r+2^j):=ha
      have rn:=sq_le_self r0 r1
      have br:=blen_mono rn
      have sq0:0≤r*r:=Int.mul_nonneg r0 r0
      have bs:=blen_mono r1
      refine br_intro (fun h=>?_) fun h=>?_
      · obtain ⟨i,rfl⟩:∃ i,j=i+1:=⟨j-1,by have:=leI_true.1 h;simp only at this;omega⟩
        have ei:(((i+1:Nat):Int)-1).toNat=i:=by omega
        have e1:((i+1:Nat):Int)-1=i:=by omega
        have pi:=two_pow_pos i
        show _∧_
        simp only [e1,Int.toNat_natCast]
        rw [val_ws_one,val_ws r0,Int.one_mul,val_ws (show (0:Int)≤2^i by omega),val_ws (show 0≤r+2^i by omega)]
        have b1:=blen_root (N:=1073741820) r0 rn hb (i:=i) (by omega)
        have b2:blen ((2:Int)^i)=i+1:=blen_pow i
        have ss:0≤(r+2^i)*(r+2^i):=Int.mul_nonneg (by omega) (by omega)
        rw [val_ws ss,cmpI_le]
        refine ⟨word_one,⟨by omega,by omega,by simp [ws_one]⟩,⟨ws_blen r0 (by omega),ws_blen (by omega) (by omega)⟩,⟨trivial,by omega⟩,br_intro (fun k=>?_) fun k=>?_⟩
        · have k:=of_decide_eq_true k
          refine ⟨⟨by omega,by omega⟩,trivial,(i,r+2^i),⟨?_,by simp only;omega,k,?_⟩,?_,?_⟩
          · show i≤1073741821;omega
          · exact root_round r0 r1 r2 k
          · rfl
          · show i<i+1;omega
        · have k:=of_decide_eq_false k
          refine ⟨⟨by omega,by omega⟩,trivial,(i,r),⟨?_,r0,r1,by simp only;omega⟩,?_,?_⟩
          · show i≤1073741821;omega
          · rfl
          · show i<i+1;omega
      · obtain rfl:j=0:=by have:=leI_false.1 h;simp only at this;omega
        show _∧_
        simp only []
        rw [val_ws r0,val_ws sq0]
        have e:isq n=r:=isq_unique r0 r1 (by simpa using r2)
        refine ⟨⟨trivial,by omega⟩,⟨r1,by omega,ws_blen sq0 (by omega)⟩,?_⟩
        rw [rootN,e]
theorem sRt_ok:SpecsOk Tryz.prog sRt:=⟨nRoot_ok,gLeft_ok,sRef4_ok⟩
theorem gRoot_ok:SpecOk Tryz.prog 47 gRoot :=
  specK_ok (envOk tys2_ok sRt_ok) mixed Tryz.func47 rfl (by decide) (by decide) fun (a:Dx) ha (p:Int) _ (up:Bool) _ hp=>⟨fun _=>none,0,by
    obtain ⟨s1,p0,p1⟩:a.Sm 67108864∧1≤p∧p≤67108864:=hp
    have ma:=Dx.Wf.m0 ha
    have m1:=one_m0 ma
    have z1:=one_sm ma s1
    have hl:=one_len ma
    have f1:OneF (oneD a):=oneD_f ma
    show execF _ _ _ _ _ (fun t=>t=dT (rootRX (oneD a) p up))
    refine (gRoot_vc a p up _).mpr ⟨s1.eB (by omega),?_⟩
    rw [hl]
    generalize oneD a=x at *
    refine br_intro (fun h=>?_) fun h=>?_
    · rw [rootRX,if_pos (of_decide_eq_true h)]
    · have hx0:x.m≠0:=of_decide_eq_false h
      have hG:rootRX x p up=cutD (mkD false (stickyM (isq (leftM x.m (rootRK x p))) (decide (leftM x.m (rootRK x p)-isq (leftM x.m (rootRK x p))*isq (leftM x.m (rootRK x p))≠0) || leftB x.m (rootRK x p))) ((x.e-rootRK x p)/2-1)) p up:=by rw [rootRX,if_neg hx0]
      rw [hG]
      obtain ⟨s3,s4,s5⟩:=z1
      have ex:val x.xs=x.m:=rfl
      have lx:x.xs.length≤8796093022208:=by rw [f1.xs];exact ws_blen m1 (by omega)
      have bx:=blen_pos (show 0<x.m by omega)
      rw [ex]
      have par:neI (Int.tmod (x.e-(2*p+4-(blen x.m:Int))) 2) 0=decide ((x.e-(2*p+4-(blen x.m:Int))) % 2≠0):=by
        have t:Int.tmod (x.e-(2*p+4-(blen x.m:Int))) 2=0↔(x.e-(2*p+4-(blen x.m:Int))) % 2=0 :=
          ⟨fun h=>Int.emod_eq_zero_of_dvd (Int.dvd_of_tmod_eq_zero h),fun h=>Int.tmod_eq_zero_of_dvd (Int.dvd_of_emod_eq_zero h)⟩
        by_cases c:(x.e-(2*p+4-(blen x.m:Int))) % 2=0
        · rw [neI_false.2 (t.2 c),decide_eq_false (by simpa using c)]
        · rw [neI_true.2 (fun k=>c (t.1 k)),decide_eq_true c]
      rw [par]
      have kk:(x.e-rootRK x p) % 2=0∧(rootRK x p=2*p+4-(blen x.m:Int)∨rootRK x p=2*p+4-(blen x.m:Int)+1):=by
        rw [rootRK];split<;>omega
      refine ⟨⟨by omega,by omega⟩,⟨by omega,by omega⟩,⟨by omega,by omega⟩,⟨by omega,by omega⟩,by omega,br_intro (fun c=>?_) fun c=>?_⟩
      · have c:=of_decide_eq_true c
        have hK:rootRK x p=2*p+4-(blen x.m:Int)+1:=by rw [rootRK,if_pos c]
        rw [←hK]
        refine ⟨⟨by omega,by omega⟩,?_⟩
        obtain ⟨hM,hMb⟩:=leftM_blen (m:=x.m) (k:=rootRK x p) (by omega) (by omega) (by omega)
        clear hK c par hG
        generalize rootRK x p=k at *
        generalize leftM x.m k=M at *
        generalize leftB x.m k=lo at *
        have v0:=isq_nonneg M
        have v1:=isq_le (n:=M) (by omega)
        have vb:=blen_mono (isq_le_self (show 0≤M by omega))
        have vM:val (ws M)=M:=val_ws (by omega)
        rw [vM]
        generalize isq M=V at *
        have td:Int.tdiv (x.e-k) 2=(x.e-k)/2:=tdiv_even kk.1
        have hV2:0≤V*2^1:=by omega
        have hR:0≤M-V*V:=by omega
        rw [val_ws v0,len_pos hR,td,val_ws hV2,val_ws_one,val_ws (show 0≤V*2^1+1 by omega)]
        have lM:=ws_blen (n:=M) (k:=8796093022206) (by omega) (by omega)
        have lV:=ws_blen (n:=V) (k:=8796093022206) v0 (by omega)
        have lV2:(ws (V*2^1)).length≤17592186044414:=ws_blen hV2 (by
          by_cases h0:V=0
          · rw [h0];simp [blen]
          · rw [blen_mul_pow (by omega)];omega)
        have sz:∀ bb:Bool,Dx.Sm 34359738368 (mkD false (stickyM V bb) ((x.e-k)/2-1)):=fun bb=>by
          obtain ⟨t1,t2⟩:=sticky_blen (b:=bb) v0
          exact (mkD_sm (N:=1073741824) (M:=1073741824) t1 (by omega) (by omega) (by omega)).mono (by omega)
        have e1:V*2^1+1=stickyM V true:=rfl
        have e0:V*2^1=stickyM V false:=by show _=V*2+0;omega
        refine ⟨⟨by omega,by omega,lx⟩,⟨rfl,by omega,by omega⟩,⟨by omega,by omega,by omega⟩,br_intro (fun hr=>?_) fun hr=>br_intro (fun hlo=>?_) fun hlo=>?_⟩
        · rw [hr,Bool.true_or,e1]
          exact ⟨word_one,⟨lV2,by simp [ws_one]⟩,⟨by omega,by omega⟩,⟨by omega,by omega,by omega⟩,⟨by omega,by omega⟩,⟨by omega,by omega⟩,⟨sz true,by omega,by omega⟩,rfl⟩
        · rw [hr,hlo,Bool.false_or,e1]
          exact ⟨word_one,⟨lV2,by simp [ws_one]⟩,⟨by omega,by omega⟩,⟨by omega,by omega,by omega⟩,⟨by omega,by omega⟩,⟨by omega,by omega⟩,⟨sz true,by omega,by omega⟩,rfl⟩
        · rw [hr,hlo,Bool.false_or,e0]
          exact ⟨⟨by omega,by omega⟩,⟨by omega,by omega,by omega⟩,⟨by omega,by omega⟩,⟨by omega,by omega⟩,⟨sz false,by omega,by omega⟩,rfl⟩
      · have c:=of_decide_eq_false c
        have hK:rootRK x p=2*p+4-(blen x.m:Int):=by rw [rootRK,if_neg c]
        rw [←hK]
        obtain ⟨hM,hMb⟩:=leftM_blen (m:=x.m) (k:=rootRK x p) (by omega) (by omega) (by omega)
        clear hK c par hG
        generalize rootRK x p=k at *
        generalize leftM x.m k=M at *
        generalize leftB x.m k=lo at *
        have v0:=isq_nonneg M
        have v1:=isq_le (n:=M) (by omega)
        have vb:=blen_mono (isq_le_self (show 0≤M by omega))
        have vM:val (ws M)=M:=val_ws (by omega)
        rw [vM]
        generalize isq M=V at *
        have td:Int.tdiv (x.e-k) 2=(x.e-k)/2:=tdiv_even kk.1
        have hV2:0≤V*2^1:=by omega
        have hR:0≤M-V*V:=by omega
        rw [val_ws v0,len_pos hR,td,val_ws hV2,val_ws_one,val_ws (show 0≤V*2^1+1 by omega)]
        have lM:=ws_blen (n:=M) (k:=8796093022206) (by omega) (by omega)
        have lV:=ws_blen (n:=V) (k:=8796093022206) v0 (by omega)
        have lV2:(ws (V*2^1)).length≤17592186044414:=ws_blen hV2 (by
          by_cases h0:V=0
          · rw [h0];simp [blen]
          · rw [blen_mul_pow (by omega)];omega)
        have sz:∀ bb:Bool,Dx.Sm 34359738368 (mkD false (stickyM V bb) ((x.e-k)/2-1)):=fun bb=>by
          obtain ⟨t1,t2⟩:=sticky_blen (b:=bb) v0
          exact (mkD_sm (N:=1073741824) (M:=1073741824) t1 (by omega) (by omega) (by omega)).mono (by omega)
        have e1:V*2^1+1=stickyM V true:=rfl
        have e0:V*2^1=stickyM V false:=by show _=V*2+0;omega
        refine ⟨⟨by omega,by omega,lx⟩,⟨rfl,by omega,by omega⟩,⟨by omega,by omega,by omega⟩,br_intro (fun hr=>?_) fun hr=>br_intro (fun hlo=>?_) fun hlo=>?_⟩
        · rw [hr,Bool.true_or,e1]
          exact ⟨word_one,⟨lV2,by simp [ws_one]⟩,⟨by omega,by omega⟩,⟨by omega,by omega,by omega⟩,⟨by omega,by omega⟩,⟨by omega,by omega⟩,⟨sz true,by omega,by omega⟩,rfl⟩
        · rw [hr,hlo,Bool.false_or,e1]
          exact ⟨word_one,⟨lV2,by simp [ws_one]⟩,⟨by omega,by omega⟩,⟨by omega,by omega,by omega⟩,⟨by omega,by omega⟩,⟨by omega,by omega⟩,⟨sz true,by omega,by omega⟩,rfl⟩
        · rw [hr,hlo,Bool.false_or,e0]
          exact ⟨⟨by omega,by omega⟩,⟨by omega,by omega,by omega⟩,⟨by omega,by omega⟩,⟨by omega,by omega⟩,⟨sz false,by omega,by omega⟩,rfl⟩⟩
theorem sSq_ok:SpecsOk Tryz.prog sSq:=⟨gRoot_ok,trivial⟩
theorem gSqrt_ok:SpecOk Tryz.prog 21 gSqrt :=
  specK_ok (envOk tys2_ok sSq_ok) mixed Tryz.func21 rfl (by decide) (by decide) fun (v:Vx) _ (p:Int) _ hp=>⟨fun _=>none,0,by
    obtain ⟨⟨s1,s2⟩,p0,p1⟩:v.Sm 67108864∧1≤p∧p≤67108864:=hp
    exact (gSqrt_vc v p _).mpr ⟨⟨s1,p0,p1⟩,⟨s2,p0,p1⟩,rfl,rfl⟩⟩
def twoR(k:Int)(v u:Vx)(p:Int):Vx×Int:=if k=0 then ivAdd v u p else if k=1 then ivSub v u p else if k=2 then ivMul v u p else if k=3 then ivDiv v u p else ivSqrt v p
def wT5(f:Int→Vx→Vx→Int→Vx×Int):Spec:=specK [.i .i64,.v,.v,.i .i64] fun (k:Int) (v:Vx) (u:Vx) (p:Int)=>(some (0≤k∧k≤4),reT (f k v u p))
theorem lTwo0_vc(v u:Vx)(p:Int)(Q:Tv→Prop):execF ⟨tys2,sIval⟩ (fun _=>none) 0 Tryz.f4 [.one (.int .i64 0),.agg (ivL false v),.agg (ivL false u),.one (.int .i64 p)] Q=(Q (Tv.tup [Sv.agg (ivL false (ivAdd v u p).fst),Sv.one (At.int .i64 (ivAdd v u p).snd)])):=by kernel_rfl
theorem lTwo1_vc(v u:Vx)(p:Int)(Q:Tv→Prop):execF ⟨tys2,sIval⟩ (fun _=>none) 0 Tryz.f4 [.one (.int .i64 1),.agg (ivL false v),.agg (ivL false u),.one (.int .i64 p)] Q=(Q (Tv.tup [Sv.agg (ivL false (ivSub v u p).fst),Sv.one (At.int .i64 (ivSub v u p).snd)])):=by kernel_rfl
theorem lTwo2_vc(v u:Vx)(p:Int)(Q:Tv→Prop):execF ⟨tys2,sIval⟩ (fun _=>none) 0 Tryz.f4 [.one (.int .i64 2),.agg (ivL false v),.agg (ivL false u),.one (.int .i64 p)] Q=(Q (Tv.tup [Sv.agg (ivL false (ivMul v u p).fst),Sv.one (At.int .i64 (ivMul v u p).snd)])):=by kernel_rfl
theorem lTwo3_vc(v u:Vx)(p:Int)(Q:Tv→Prop):execF ⟨tys2,sIval⟩ (fun _=>none) 0 Tryz.f4 [.one (.int .i64 3),.agg (ivL false v),.agg (ivL false u),.one (.int .i64 p)] Q=(Q (Tv.tup [Sv.agg (ivL false (ivDiv v u p).fst),Sv.one (At.int .i64 (ivDiv v u p).snd)])):=by kernel_rfl
theorem lTwo4_vc(v u:Vx)(p:Int)(Q:Tv→Prop):execF ⟨tys2,sIval⟩ (fun _=>none) 0 Tryz.f4 [.one (.int .i64 4),.agg (ivL false v),.agg (ivL false u),.one (.int .i64 p)] Q=(Q (Tv.tup [Sv.agg (ivL false (ivSqrt v p).fst),Sv.one (At.int .i64 (ivSqrt v p).snd)])):=by kernel_rfl
theorem lTwo_ok:SpecOk Tryz.prog 4 (wT5 twoR) :=
  specK_ok (envOk tys2_ok sIval_ok) mixed Tryz.func4 rfl (by decide) (by decide) fun (k:Int) _ (v:Vx) _ (u:Vx) _ (p:Int) _ hp=>⟨fun _=>none,0,by
    obtain ⟨k0,k1⟩:0≤k∧k≤4:=hp
    have hk:k=0∨k=1∨k=2∨k=3∨k=4:=by omega
    rcases hk with rfl | rfl | rfl | rfl | rfl
    · exact (lTwo0_vc v u p _).mpr rfl
    · exact (lTwo1_vc v u p _).mpr rfl
    · exact (lTwo2_vc v u p _).mpr rfl
    · exact (lTwo3_vc v u p _).mpr rfl
    · exact (lTwo4_vc v u p _).mpr rfl⟩
def gZv:Spec:=specK [.v] fun (v:Vx)=>(none,bT (zeroV v))
theorem gZv_vc(v:Vx)(Q:Tv→Prop):execF ⟨tys2,sRef4⟩ (fun _=>none) 0 Tryz.f18 [.agg (ivL false v)] Q=(br (leI (Dx.sgn v.lo) 0) (Q (bT (leI 0 (Dx.sgn v.hi)))) (Q (bT false))):=by kernel_rfl
def sTw6:List (FuncId×Spec):=[(18,gZv),(19,gDiv),(21,gSqrt),(16,gLess)] ++ sG3
theorem gTwo0_vc(v u:Vx)(p:Int)(Q:Tv→Prop):execF ⟨tys2,sTw6⟩ (fun _=>none) 0 Tryz.f5 [.one (.int .i64 0),.agg (ivL false v),.agg (ivL false u),.one (.int .i64 p)] Q=(br (!rightV v) (Q (Tv.tup [Sv.agg [At.bool false,At.words true [],At.int .i64 0,At.bool false,At.words true [],At.int .i64 0],Sv.one (At.int .i64 2)])) (br (!rightV u) (Q (Tv.tup [Sv.agg [At.bool false,At.words true [],At.int .i64 0,At.bool false,At.words true [],At.int .i64 0],Sv.one (At.int .i64 2)])) (br (ltI p 1) (Q (Tv.tup [Sv.agg [At.bool false,At.words true [],At.int .i64 0,At.bool false,At.words true [],At.int .i64 0],Sv.one (At.int .i64 2)])) (br (ltI 8192 p) (Q (Tv.tup [Sv.agg [At.bool false,At.words true [],At.int .i64 0,At.bool false,At.words true [],At.int .i64 0],Sv.one (At.int .i64 2)])) ((Vx.Sm 268435456 v∧Vx.Sm 268435456 u∧(0:Int)≤p∧p≤1099511627776)∧Q (Tv.tup [Sv.agg (ivL false (roomR (plusV v u p)).fst),Sv.one (At.int .i64 (roomR (plusV v u p)).snd)])))))):=by kernel_rfl
theorem gTwo1_vc(v u:Vx)(p:Int)(Q:Tv→Prop):execF ⟨tys2,sTw6⟩ (fun _=>none) 0 Tryz.f5 [.one (.int .i64 1),.agg (ivL false v),.agg (ivL false u),.one (.int .i64 p)] Q=(br (!rightV v) (Q (Tv.tup [Sv.agg [At.bool false,At.words true [],At.int .i64 0,At.bool false,At.words true [],At.int .i64 0],Sv.one (At.int .i64 2)])) (br (!rightV u) (Q (Tv.tup [Sv.agg [At.bool false,At.words true [],At.int .i64 0,At.bool false,At.words true [],At.int .i64 0],Sv.one (At.int .i64 2)])) (br (ltI p 1) (Q (Tv.tup [Sv.agg [At.bool false,At.words true [],At.int .i64 0,At.bool false,At.words true [],At.int .i64 0],Sv.one (At.int .i64 2)])) (br (ltI 8192 p) (Q (Tv.tup [Sv.agg [At.bool false,At.words true [],At.int .i64 0,At.bool false,At.words true [],At.int .i64 0],Sv.one (At.int .i64 2)])) ((Vx.Sm 134217728 v∧Vx.Sm 134217728 u∧(0:Int)≤p∧p≤1099511627776)∧Q (Tv.tup [Sv.agg (ivL false (roomR (lessV v u p)).fst),Sv.one (At.int .i64 (roomR (lessV v u p)).snd)])))))):=by kernel_rfl
theorem gTwo2_vc(v u:Vx)(p:Int)(Q:Tv→Prop):execF ⟨tys2,sTw6⟩ (fun _=>none) 0 Tryz.f5 [.one (.int .i64 2),.agg (ivL false v),.agg (ivL false u),.one (.int .i64 p)] Q=(br (!rightV v) (Q (Tv.tup [Sv.agg [At.bool false,At.words true [],At.int .i64 0,At.bool false,At.words true [],At.int .i64 0],Sv.one (At.int .i64 2)])) (br (!rightV u) (Q (Tv.tup [Sv.agg [At.bool false,At.words true [],At.int .i64 0,At.bool false,At.words true [],At.int .i64 0],Sv.one (At.int .i64 2)])) (br (ltI p 1) (Q (Tv.tup [Sv.agg [At.bool false,At.words true [],At.int .i64 0,At.bool false,At.words true [],At.int .i64 0],Sv.one (At.int .i64 2)])) (br (ltI 8192 p) (Q (Tv.tup [Sv.agg [At.bool false,At.words true [],At.int .i64 0,At.bool false,At.words true [],At.int .i64 0],Sv.one (At.int .i64 2)])) ((Vx.Sm 268435456 v∧Vx.Sm 268435456 u∧(0:Int)≤p∧p≤1099511627776)∧Q (Tv.tup [Sv.agg (ivL false (roomR (timesV v u p)).fst),Sv.one (At.int .i64 (roomR (timesV v u p)).snd)])))))):=by kernel_rfl
theorem gTwo3_vc(v u:Vx)(p:Int)(Q:Tv→Prop):execF ⟨tys2,sTw6⟩ (fun _=>none) 0 Tryz.f5 [.one (.int .i64 3),.agg (ivL false v),.agg (ivL false u),.one (.int .i64 p)] Q=(br (!rightV v) (Q (Tv.tup [Sv.agg [At.bool false,At.words true [],At.int .i64 0,At.bool false,At.words true [],At.int .i64 0],Sv.one (At.int .i64 2)])) (br (!rightV u) (Q (Tv.tup [Sv.agg [At.bool false,At.words true [],At.int .i64 0,At.bool false,At.words true [],At.int .i64 0],Sv.one (At.int .i64 2)])) (br (ltI p 1) (Q (Tv.tup [Sv.agg [At.bool false,At.words true [],At.int .i64 0,At.bool false,At.words true [],At.int .i64 0],Sv.one (At.int .i64 2)])) (br (ltI 8192 p) (Q (Tv.tup [Sv.agg [At.bool false,At.words true [],At.int .i64 0,At.bool false,At.words true [],At.int .i64 0],Sv.one (At.int .i64 2)])) (br (zeroV u) (Q (Tv.tup [Sv.agg [At.bool false,At.words true [],At.int .i64 0,At.bool false,At.words true [],At.int .i64 0],Sv.one (At.int .i64 30)])) ((Vx.Sm 16777216 v∧Vx.Sm 16777216 u∧Dx.m u.lo≠0∧Dx.m u.hi≠0∧(1:Int)≤p∧p≤16777216)∧Q (Tv.tup [Sv.agg (ivL false (roomR (divV v u p)).fst),Sv.one (At.int .i64 (roomR (divV v u p)).snd)]))))))):=by kernel_rfl
theorem gTwo4_vc(v u:Vx)(p:Int)(Q:Tv→Prop):execF ⟨tys2,sTw6⟩ (fun _=>none) 0 Tryz.f5 [.one (.int .i64 4),.agg (ivL false v),.agg (ivL false u),.one (.int .i64 p)] Q=(br (!rightV v) (Q (Tv.tup [Sv.agg [At.bool false,At.words true [],At.int .i64 0,At.bool false,At.words true [],At.int .i64 0],Sv.one (At.int .i64 2)])) (br (ltI p 1) (Q (Tv.tup [Sv.agg [At.bool false,At.words true [],At.int .i64 0,At.bool false,At.words true [],At.int .i64 0],Sv.one (At.int .i64 2)])) (br (ltI 8192 p) (Q (Tv.tup [Sv.agg [At.bool false,At.words true [],At.int .i64 0,At.bool false,At.words true [],At.int .i64 0],Sv.one (At.int .i64 2)])) (br (ltI (Dx.sgn v.lo) 0) (Q (Tv.tup [Sv.agg [At.bool false,At.words true [],At.int .i64 0,At.bool false,At.words true [],At.int .i64 0],Sv.one (At.int .i64 31)])) ((Vx.Sm 67108864 v∧(1:Int)≤p∧p≤67108864)∧Q (Tv.tup [Sv.agg (ivL false (roomR (sqrtRV v p)).fst),Sv.one (At.int .i64 (roomR (sqrtRV v p)).snd)])))))):=by kernel_rfl
def sTws(f1 f2:Int→Vx→Vx→Int→Vx×Int)(fS:Vx→Vx→Bool):List (FuncId×Spec):=[(4,wT5 f1),(5,wT5 f2),(6,wB fS),(7,lBeg)]
theorem lTws_vc(v u:Vx)(p:Int)(f1 f2:Int→Vx→Vx→Int→Vx×Int)(fS:Vx→Vx→Bool)(Q:Tv→Prop):execF ⟨tys2,sTws f1 f2 fS⟩ (fun _=>none) 7 Tryz.f3 [.agg (ivL false v),.agg (ivL false u),.one (.int .i64 p)] Q=(((0:Int)≤0∧(0:Int)≤4)∧((0:Int)≤0∧(0:Int)≤4)∧br (!fS (f1 0 v u p).fst (f2 0 v u p).fst) (Q (bT false)) (br (neI (f1 0 v u p).snd (f2 0 v u p).snd) (Q (bT false)) (inR ((0:Int)+1)∧((0:Int)≤0+1∧(0:Int)+1≤4)∧((0:Int)≤0+1∧(0:Int)+1≤4)∧br (!fS (f1 ((0:Int)+1) v u p).fst (f2 ((0:Int)+1) v u p).fst) (Q (bT false)) (br (neI (f1 ((0:Int)+1) v u p).snd (f2 ((0:Int)+1) v u p).snd) (Q (bT false)) (inR ((0:Int)+1+1)∧((0:Int)≤0+1+1∧(0:Int)+1+1≤4)∧((0:Int)≤0+1+1∧(0:Int)+1+1≤4)∧br (!fS (f1 ((0:Int)+1+1) v u p).fst (f2 ((0:Int)+1+1) v u p).fst) (Q (bT false)) (br (neI (f1 ((0:Int)+1+1) v u p).snd (f2 ((0:Int)+1+1) v u p).snd) (Q (bT false)) (inR ((0:Int)+1+1+1)∧((0:Int)≤0+1+1+1∧(0:Int)+1+1+1≤4)∧((0:Int)≤0+1+1+1∧(0:Int)+1+1+1≤4)∧br (!fS (f1 ((0:Int)+1+1+1) v u p).fst (f2 ((0:Int)+1+1+1) v u p).fst) (Q (bT false)) (br (neI (f1 ((0:Int)+1+1+1) v u p).snd (f2 ((0:Int)+1+1+1) v u p).snd) (Q (bT false)) (inR ((0:Int)+1+1+1+1)∧((0:Int)≤0+1+1+1+1∧(0:Int)+1+1+1+1≤4)∧((0:Int)≤0+1+1+1+1∧(0:Int)+1+1+1+1≤4)∧br (!fS (f1 ((0:Int)+1+1+1+1) v u p).fst (f2 ((0:Int)+1+1+1+1) v u p).fst) (Q (bT false)) (br (neI (f1 ((0:Int)+1+1+1+1) v u p).snd (f2 ((0:Int)+1+1+1+1) v u p).snd) (Q (bT false)) (inR ((0:Int)+1+1+1+1+1)∧Q (bT true)))))))))))):=by kernel_rfl
theorem gZv_ok:SpecOk Tryz.prog 18 gZv :=
  specK_ok (envOk tys2_ok sRef4_ok) mixed Tryz.func18 rfl (by decide) (by decide) fun (v:Vx) _ _=>⟨fun _=>none,0,by
    show execF _ _ _ _ _ (fun t=>t=bT (zeroV v))
    refine (gZv_vc v _).mpr (br_intro (fun h=>?_) fun h=>?_)
    · rw [zeroV,decide_eq_true (leI_true.1 h)];rfl
    · rw [zeroV,decide_eq_false (show ¬ v.lo.sgn≤0 by have:=leI_false.1 h;omega)];rfl⟩
theorem sTw6_ok:SpecsOk Tryz.prog sTw6:=⟨gZv_ok,gDiv_ok,gSqrt_ok,gLess_ok,sG3_ok⟩
theorem room_qw{v u X:Vx}{p:Int}(e:(if neI 0 0=true then (zeroIv,0) else roomR X)=doR v u p 0 X):Qw (doR v u p 0 X) (reT (roomR X)):=by
  left;rw [←e];rfl
theorem gTwo_ok:SpecOk Tryz.prog 5 (wT5 twoR) :=
  specKW_ok (envOk tys2_ok sTw6_ok) mixed Tryz.func5 rfl (by decide) (by decide) fun (k:Int) _ (v:Vx) hv (u:Vx) hu (p:Int) _ hp=>⟨fun _=>none,0,by
    obtain ⟨k0,k1⟩:0≤k∧k≤4:=hp
    have hv:=Vx.Wf.p hv
    have hu:=Vx.Wf.p hu
    show execF _ _ _ _ _ (Qw (twoR k v u p))
    have hk:k=0∨k=1∨k=2∨k=3∨k=4:=by omega
    rcases hk with rfl | rfl | rfl | rfl | rfl
    · exact (gTwo0_vc v u p _).mpr (do_br (wrong:=0) fun r1 r2 p0 p1 e=>⟨⟨(right_sm r1).mono (by omega),(right_sm r2).mono (by omega),by omega,by omega⟩,room_qw e⟩)
    · exact (gTwo1_vc v u p _).mpr (do_br (wrong:=0) fun r1 r2 p0 p1 e=>⟨⟨(right_sm r1).mono (by omega),(right_sm r2).mono (by omega),by omega,by omega⟩,room_qw e⟩)
    · exact (gTwo2_vc v u p _).mpr (do_br (wrong:=0) fun r1 r2 p0 p1 e=>⟨⟨(right_sm r1).mono (by omega),(right_sm r2).mono (by omega),by omega,by omega⟩,room_qw e⟩)
    · refine (gTwo3_vc v u p _).mpr (do_br (wrong:=wrongZ u) (X:=divV v u p) fun r1 r2 p0 p1 e=>br_intro (fun z=>?_) fun z=>?_)
      · right
        show _=reT (doR v u p (wrongZ u) (divV v u p))
        rw [←e,wrongZ,if_pos z];rfl
      · obtain ⟨z1,z2⟩:=not_zero_ends hu r2 z
        refine ⟨⟨(right_sm r1).mono (by omega),(right_sm r2).mono (by omega),z1,z2,by omega,by omega⟩,?_⟩
        left
        show _=reT (doR v u p (wrongZ u) (divV v u p))
        rw [←e,wrongZ,if_neg (by rw [z];decide)];rfl
    · have r0:rightV zeroIv=true:=by decide +kernel
      have q:=fun {R:Prop} h=>do_br (v:=v) (u:=zeroIv) (p:=p) (wrong:=wrongL v) (X:=sqrtV v p) (R:=R) h
      rw [r0] at q
      refine (gTwo4_vc v u p _).mpr (q fun r1 _ p0 p1 e=>br_intro (fun z=>?_) fun z=>?_)
      · right
        show _=reT (doR v zeroIv p (wrongL v) (sqrtV v p))
        rw [←e,wrongL,if_pos (ltI_true.1 z)];rfl
      · refine ⟨⟨(right_sm r1).mono (by omega),by omega,by omega⟩,?_⟩
        have z:=ltI_false.1 z
        have l0:0≤v.lo.rv:=by
          rcases sgn_rv hv.1 with ⟨a,b⟩|⟨a,b⟩|⟨a,b⟩
          · rw [b];exact Rat.le_refl
          · exact rlL b
          · omega
        have h0:v.lo.rv≤v.hi.rv:=cmpD_le.1 (right_fits r1).2.2
        have es:sqrtRV v p=sqrtV v p:=by
          show (⟨rootR v.lo p false,rootR v.hi p true⟩:Vx)=⟨rootD v.lo p false,rootD v.hi p true⟩
          rw [rootR_eq hv.1 l0 p0,rootR_eq hv.2 (Rat.le_trans l0 h0) p0]
        rw [es]
        left
        show _=reT (doR v zeroIv p (wrongL v) (sqrtV v p))
        rw [←e,wrongL,if_neg z];rfl⟩
theorem sTws_ok:SpecsOk Tryz.prog (sTws twoR twoR sameV):=⟨lTwo_ok,gTwo_ok,gSame_ok,lBeg_ok,trivial⟩
def lTws:Spec:=specK [.v,.v,.i .i64] fun (_:Vx) (_:Vx) (_:Int)=>(none,bT true)
theorem neI_self(n:Int):neI n n=false:=neI_false.2 rfl
theorem lTws_ok:SpecOk Tryz.prog 3 lTws :=
  specK_ok (envOk tys2_ok sTws_ok) mixed Tryz.func3 rfl (by decide) (by decide) fun (v:Vx) _ (u:Vx) _ (p:Int) _ _=>⟨fun _=>none,7,by
    show execF _ _ _ _ _ (fun t=>t=bT true)
    refine (lTws_vc v u p twoR twoR sameV _).mpr ?_
    simp only [sameV_refl,neI_self]
    repeat' first | exact rfl | omega | refine And.intro ?_ ?_⟩
end Go.Proofs.YtbboniaeoegeeaaGreatDoor
namespace Go.Proofs.YtbboniaeoegeeaaGreatDoor
open Go.RowKit Go.ChangeShapes Go.WideShapes Go.Deep
set_option maxRecDepth 100000
def C0(W:World):Base:=⟨W.heap.size,fun _=>False,0⟩
section
variable {H:Type} {enc:TypeId×Value→H} {W:World} {base fuel:Nat} {s:Value} {x:DataW H×List MemPlace}
theorem open_words(hv:Cell.okWide Tryz.prog W .any base 23 s)(h:DataW.trod enc Tryz.prog W 0 (fun _=>true) true fuel 23 [s]=some x)
    (hw:(x.1.weights Tryz.prog 23).all (·≤reachBytes)=true) (hlt:∀ p∈x.2,p.block<W.heap.size):∃ xs,Rep (C0 W) noBox W s (.words false xs):=by
  rcases open_ints Tryz.underlying23 Tryz.underlying45 (by kernel_rfl) h with ⟨e,rfl⟩|⟨a,len,cap,zs,e,_,hl,hm,hz,rfl,hc,hwf⟩
  · cases e
    exact ⟨[],.words ⟨none,0,rfl,Nat.le_refl _,⟨by omega,by simp⟩,Words.nil,fun _=>rfl,fun h=>absurd h (by simp)⟩⟩
  · cases e
    rw [if_pos rfl] at hz
    obtain ⟨_,_,_,hspot,_⟩:len≤cap∧(cap:Int)≤IntKind.i64.max∧W.has Tryz.prog .any base a 45 cap:=by
      simpa [Cell.okWide,Cell.ok,Tryz.underlying23] using hv
    obtain ⟨g,o,spot⟩:=a
    simp only at hspot;subst hspot
    have hb8:Tryz.prog.bytesOf 45=8:=by kernel_rfl
    have hwt:(len+(cap-len))*8≤reachBytes:=by
      simp only [DataW.weights,Tryz.underlying23,List.all_cons,Bool.and_eq_true,decide_eq_true_eq,lits,List.length_map,List.length_take,List.length_drop,hz,hb8] at hw
      have:=hw.1
      rwa [Nat.min_eq_left hl] at this
    have hr:reachBytes=140737488351232:=rfl
    rw [hr] at hwt
    have hwords:Words zs:=fun n hn=>by
      have:=hwf n hn
      simp only [Lit.wf,Bool.and_eq_true,decide_eq_true_eq] at this
      have h1:IntKind.u64.min=0:=rfl
      have h2:IntKind.u64.max=18446744073709551615:=rfl
      rw [h1,h2] at this
      exact ⟨by omega,by omega⟩
    have hlen:(zs.take len).length=len:=by rw [List.length_take];omega
    refine ⟨zs.take len,.words ⟨_,cap,by rw [hlen],by omega,⟨by simp [maxLen] at hm;omega,by omega⟩,hwords.take _,by simp,fun hp=>⟨g,o,rfl,⟨⟨by simp [noBox],fun hx=>hx.elim⟩,by simp⟩,?_,fun j hj=>?_⟩⟩⟩
    · exact World.block_lt_of_cell? W _ (hc 0 (by omega))
    · have hj:j<len:=by omega
      have:=hc j (by omega)
      rw [nth_take hj]
      rw [show (⟨g,o,none⟩:Addr).add j=⟨g,o+j,none⟩ from by simp [Addr.add]] at this
      exact this
theorem open_dy{cs:List Value}(hok:∀ c,cs[1]?=some c→Cell.okWide Tryz.prog W .any base 23 c)(h:DataW.trod enc Tryz.prog W 0 (fun _=>true) true fuel 25 cs=some x)
    (hw:(x.1.weights Tryz.prog 25).all (·≤reachBytes)=true) (hlt:∀ p∈x.2,p.block<W.heap.size):∃ d:Dx,RepL (C0 W) noBox W cs (dyL false d):=by
  obtain ⟨y0,y1,y2,n,rfl,hl,h0,h1,h2⟩:=trod_struct3 Tryz.underlying25 h
  rw [show Tryz.prog.cellsOf 25=3 by kernel_rfl] at hl
  match cs,hl with
  | [c0,c1,c2],_ =>
    obtain ⟨b,e0,rfl⟩:=DataW.trod_bool Tryz.underlying4 h0
    obtain ⟨k,e2,rfl,hk⟩:=DataW.trod_int Tryz.underlying3 h2
    rw [show Tryz.prog.cellsOf 4=1 by kernel_rfl] at e0
    rw [show Tryz.prog.cellsOf 3=1 by kernel_rfl] at e2
    simp at e0 e2
    subst e0;subst e2
    simp only [show Tryz.prog.cellsOf 23=1 by kernel_rfl] at h1
    simp only [DataW.weights,Tryz.underlying25,DataW.weightsEach,List.map_cons,List.map_nil,List.all_append,Bool.and_eq_true] at hw
    obtain ⟨xs,hxs⟩:=open_words (hok c1 rfl) (by simpa using h1) hw.2.1 (fun p hp=>hlt p (by simp [hp]))
    exact ⟨⟨b,xs,k⟩,Rep.bool b,hxs,Rep.int _ k,trivial⟩
theorem arg_d{v:Value}{d:DataW H}{ps:List MemPlace}(hv:Value.okWide Tryz.prog W .any base 25 v)(h:DataW.Trod enc Tryz.prog W 0 (fun _=>true) true 25 v d ps)
    (hw:(d.weights Tryz.prog 25).all (·≤reachBytes)=true) (hlt:∀ p∈ps,p.block<W.heap.size):∃ x:Dx,RepS (C0 W) noBox W v (.agg (dyL false x)):=by
  simp only [Value.okWide,Tryz.underlying25] at hv
  obtain ⟨cs,rfl,hsz,ts,hts,_,hrow⟩:=hv
  rw [show Tryz.prog.cellTypes Tryz.prog.depth 25=some [4,23,3] by kernel_rfl] at hts
  cases hts
  obtain ⟨fuel,h⟩:=h
  obtain ⟨x,hx⟩:=open_dy (x:=(d,ps)) (base:=base) (fun c hc=>by
    obtain ⟨u,hu,hok⟩:=hrow 1 c (by rw [←Array.getElem?_toList];exact hc)
    cases hu;exact hok) h hw hlt
  exact ⟨x,cs.toList,rfl,hx⟩
theorem arg_v{v:Value}{d:DataW H}{ps:List MemPlace}(hv:Value.okWide Tryz.prog W .any base 27 v)(h:DataW.Trod enc Tryz.prog W 0 (fun _=>true) true 27 v d ps)
    (hw:(d.weights Tryz.prog 27).all (·≤reachBytes)=true) (hlt:∀ p∈ps,p.block<W.heap.size):∃ x:Vx,RepS (C0 W) noBox W v (.agg (ivL false x)):=by
  simp only [Value.okWide,Tryz.underlying27] at hv
  obtain ⟨cs,rfl,hsz,ts,hts,_,hrow⟩:=hv
  rw [show Tryz.prog.cellTypes Tryz.prog.depth 27=some [4,23,3,4,23,3] by kernel_rfl] at hts
  cases hts
  rw [show Tryz.prog.cellsOf 27=6 by kernel_rfl] at hsz
  obtain ⟨fuel,h⟩:=h
  obtain ⟨cs⟩:=cs
  match cs,hsz with
  | [c0,c1,c2,c3,c4,c5],_ =>
    obtain ⟨y0,y1,n,e,_,h0,h1⟩:=trod_struct2 Tryz.underlying27 h
    cases e
    simp only [show Tryz.prog.cellsOf 25=3 by kernel_rfl] at h0 h1
    simp only [DataW.weights,Tryz.underlying27,DataW.weightsEach,List.map_cons,List.map_nil,List.all_append,Bool.and_eq_true] at hw
    obtain ⟨x,hx⟩:=open_dy (cs:=[c0,c1,c2]) (base:=base) (fun c hc=>by
      obtain ⟨u,hu,hok⟩:=hrow 1 c hc
      cases hu;exact hok) h0 hw.1 (fun p hp=>hlt p (by simp [hp]))
    obtain ⟨y,hy⟩:=open_dy (cs:=[c3,c4,c5]) (base:=base) (fun c hc=>by
      obtain ⟨u,hu,hok⟩:=hrow 4 c hc
      cases hu;exact hok) h1 hw.2.1 (fun p hp=>hlt p (by simp [hp]))
    obtain ⟨a1,a2,a3,_⟩:=hx
    obtain ⟨b1,b2,b3,_⟩:=hy
    exact ⟨⟨x,y⟩,[c0,c1,c2,c3,c4,c5],rfl,a1,a2,a3,b1,b2,b3,trivial⟩
def Kd:Ak→TypeId→Prop
  | .b,t=>t=4
  | .i q,t=>Tryz.prog.underlying t=some (.int q)
  | .w,_=>False
  | .fx,_=>False
  | .p,_=>False
  | .d,t=>t=25
  | .v,t=>t=27
def Kds:List Ak→List TypeId→Prop
  | [],[]=>True
  | k :: ks,t :: ts=>Kd k t∧Kds ks ts
  | _,_=>False
def okArg:(k:Ak)→k.T→Prop
  | .i q,n=>q.min≤n∧n≤q.max
  | _,_=>True
theorem arg_k{k:Ak}{t:TypeId}(hk:Kd k t){v:Value}{d:DataW H}{ps:List MemPlace}(hv:Value.okWide Tryz.prog W .any base t v)(h:DataW.Trod enc Tryz.prog W 0 (fun _=>true) true t v d ps)
    (hw:(d.weights Tryz.prog t).all (·≤reachBytes)=true) (hlt:∀ p∈ps,p.block<W.heap.size):∃ x:k.T,RepS (C0 W) noBox W v (k.enc x)∧okArg k x:=by
  cases k with
  | b =>
    obtain rfl:t=4:=hk
    obtain ⟨b,rfl⟩:=okWide_bool Tryz.underlying4 hv
    exact ⟨b,Rep.bool b,trivial⟩
  | i q =>
    obtain ⟨n,rfl⟩:=okWide_int hk hv
    refine ⟨n,Rep.int q n,(show q.min≤n∧n≤q.max from ?_)⟩
    have hk:Tryz.prog.underlying t=some (.int q):=hk
    simpa [Value.okWide,Cell.okWide,Cell.ok,hk,IntKind.has] using hv
  | w=>exact hk.elim
  | fx=>exact hk.elim
  | p=>exact hk.elim
  | d =>
    obtain rfl:t=25:=hk
    obtain ⟨x,hx⟩:=arg_d hv h hw hlt;exact ⟨x,hx,trivial⟩
  | v =>
    obtain rfl:t=27:=hk
    obtain ⟨x,hx⟩:=arg_v hv h hw hlt;exact ⟨x,hx,trivial⟩
theorem dec_enc(k:Ak)(x:k.T):k.dec (k.enc x)=some x:=by
  cases k with
  | i q=>cases q<;>rfl
  | _=>rfl
def AllTrue:(ks:List Ak)→AFun ks→Prop
  | [],g=>(match g.1 with | none=>True | some p=>p)∧g.2 = .sv (.one (.bool true))
  | k :: ks,g=>∀ x:k.T,okArg k x→AllTrue ks (g x)
theorem args_ok:∀ {ks:List Ak} {ts:List TypeId} {vs:List Value} {ds:List (DataW H)} {ps:List MemPlace},Kds ks ts→(∀ (j:Nat) t v,ts[j]?=some t→vs[j]?=some v→Value.okWide Tryz.prog W .any base t v) →
    DataW.TrodAll enc Tryz.prog W 0 (fun _=>true) true ts vs ds ps→(DataW.weightsEach Tryz.prog ts ds).all (·≤reachBytes)=true→(∀ p∈ps,p.block<W.heap.size) →
    ∃ l,RepSs (C0 W) noBox W vs l∧∀ g,AllTrue ks g→(match (specK ks g l).1 with | none=>True | some p=>p)∧(specK ks g l).2 = .sv (.one (.bool true))
  | [],[],vs,ds,ps,_,_,h,_,_=>by
    obtain ⟨rfl,rfl,rfl⟩:=trodAll_nil h
    exact ⟨[],trivial,fun g hg=>hg⟩
  | [],_ :: _,_,_,_,hk,_,_,_,_=>hk.elim
  | _ :: _,[],_,_,_,hk,_,_,_,_=>hk.elim
  | k :: ks,t :: ts,vs,ds,ps,hk,hv,h,hw,hlt=>by
    obtain ⟨v,vs1,d,ds1,a,b,rfl,rfl,rfl,h1,h2⟩:=trodAll_cons h
    simp only [DataW.weightsEach,List.all_append,Bool.and_eq_true] at hw
    obtain ⟨x,hx,hox⟩:=arg_k hk.1 (hv 0 t v rfl rfl) h1 hw.1 (fun p hp=>hlt p (by simp [hp]))
    obtain ⟨l,hl,hs⟩:=args_ok hk.2 (fun j t v ht hv'=>hv (j+1) t v ht hv') h2 hw.2 (fun p hp=>hlt p (by simp [hp]))
    refine ⟨k.enc x :: l,⟨hx,hl⟩,fun g hg=>?_⟩
    have e:specK (k :: ks) g (k.enc x :: l)=(match k.dec (k.enc x) with | some x=>specK ks (g x) l | none=>noSpec):=rfl
    rw [e,dec_enc]
    exact hs (g x) (hg x hox)
theorem law_calls{f:FuncId}{ks:List Ak}{g:AFun ks}(hs:SpecOk Tryz.prog f (specK ks g))(hg:AllTrue ks g){ts:List TypeId}{args:Array Value}{ds:List (DataW H)}{ps:List MemPlace}(hT:Tab W)(hk:Kds ks ts)
    (hv:∀ (j:Nat) t v,ts[j]?=some t→args.toList[j]?=some v→Value.okWide Tryz.prog W .any base t v) (h:DataW.TrodAll enc Tryz.prog W 0 (fun _=>true) true ts args.toList ds ps)
    (hw:(DataW.weightsEach Tryz.prog ts ds).all (·≤reachBytes)=true) (hlt:∀ p∈ps,p.block<W.heap.size) :
    Calls Tryz.prog f args W fun e W'=>e = .returned (.bool true)∧Below W.heap.size W W':=by
  obtain ⟨l,hl,hsp⟩:=args_ok hk hv h hw hlt
  have:=hs.2 (C0 W) W args.toList l rfl (fun g hg=>hg.elim) hT hl (hsp g hg).1
  rw [(hsp g hg).2] at this
  refine this.mono ?_
  rintro e w' ⟨v,rfl,hr,hb⟩
  obtain rfl:=rep_bool (A:=noBox) hr
  exact ⟨rfl,hb⟩
theorem trodAll_below{W':World}(hb:Below W.heap.size W W')(hl:laidOutB Tryz.prog=true):∀ {ts:List TypeId} {vs:List Value} {ds:List (DataW H)} {ps:List MemPlace},(∀ t∈ts,Tryz.prog.readableRec t=true∧t<Tryz.prog.types.size) →
    DataW.TrodAll enc Tryz.prog W 0 (fun _=>true) true ts vs ds ps→(∀ p∈ps,p.block<W.heap.size)→DataW.TrodAll enc Tryz.prog W' 0 (fun b=>decide (b<W.heap.size)) true ts vs ds ps
  | [],vs,ds,ps,_,h,_=>by
    obtain ⟨rfl,rfl,rfl⟩:=trodAll_nil h
    exact trodAll_mk0
  | t :: ts,vs,ds,ps,ht,h,hlt=>by
    obtain ⟨v,vs1,d,ds1,a,b,rfl,rfl,rfl,h1,h2⟩:=trodAll_cons h
    exact ⟨a,b,Below.trod hl (ht t (by simp)).1 (ht t (by simp)).2 h1 hb (fun p hp=>hlt p (by simp [hp])),trodAll_below hb hl (fun t h=>ht t (by simp [h])) h2 (fun p hp=>hlt p (by simp [hp])),rfl⟩
theorem law_post{fn:Func}{s:ChangeSpec}(hl:laidOutB Tryz.prog=true)(hres:fn.resultTypes = #[4])(hvars:s.vars = [])(ht:∀ t∈fn.params.toList,Tryz.prog.readableRec t=true∧t<Tryz.prog.types.size)
    {args:Array Value} {ds gs:List (DataW H)} {before:List MemPlace} (hspec:s.fn H (ds ++ gs) = { results:=[.lit (.bool true)],args:=ds })
    (hW:DataW.Whole enc Tryz.prog fn.params.toList s.vars false W args.toList ds gs before) {W':World} (hb:Below W.heap.size W W') :
    s.post enc Tryz.prog fn false true false false W args (.bool true) W':=by
  have hlt:=hW.lt
  have hW':=hW
  obtain ⟨p,q,hA,hV,rfl,hfz,hnd⟩:=hW
  rw [hvars] at hV
  obtain ⟨rfl,rfl⟩:=trodVars_none hV
  refine ⟨ds,[],_,[],p,[],hW',?_,?_,?_,hb.frame _,fun h=>by cases h⟩
  · rw [hspec,hres]
    exact trodAll_mk1 (shut_bool Tryz.underlying4 _)
  · rw [hspec]
    exact trodAll_below hb hl ht hA (fun x hx=>hlt x (by simp [hx]))
  · rw [hspec,hvars];rfl
end
theorem law_contract{H:Type}{enc:TypeId×Value→H}{f:FuncId}{fn:Func}{ks:List Ak}{g:AFun ks}{s:ChangeSpec}(hs:SpecOk Tryz.prog f (specK ks g))(hg:AllTrue ks g)(hl:laidOutB Tryz.prog=true)(hres:fn.resultTypes = #[4])(hvars:s.vars = [])
    (hvt:s.plain.varTypes Tryz.prog = []) (ht:∀ t∈fn.params.toList,Tryz.prog.readableRec t=true∧t<Tryz.prog.types.size) (hk:Kds ks fn.params.toList) (hspec:∀ ds:List (DataW H),ds.length=fn.params.toList.length→s.fn H ds = { results:=[.lit (.bool true)],args:=ds })
    {W:World} {base:Nat} {args:Array Value} {ds gs:List (DataW H)} {before:List MemPlace} (hval:∀ (j:Nat) t v,fn.params[j]?=some t→args[j]?=some v→Value.okWide Tryz.prog W .any base t v)
    (hW:DataW.Whole enc Tryz.prog fn.params.toList s.vars false W args.toList ds gs before) (hw:(DataW.weightsEach Tryz.prog (fn.params.toList ++ s.plain.varTypes Tryz.prog) (ds ++ gs)).all (·≤reachBytes)=true) (hT:Tab W) :
    Calls Tryz.prog f args W fun e W'=>∃ v,e = .returned v∧s.post enc Tryz.prog fn false true false false W args v W':=by
  have hlt:=hW.lt
  have hW':=hW
  obtain ⟨p,q,hA,hV,rfl,hfz,hnd⟩:=hW
  rw [hvars] at hV
  obtain ⟨rfl,rfl⟩:=trodVars_none hV
  rw [hvt,List.append_nil,List.append_nil] at hw
  refine (law_calls hs hg hT hk (fun j t v h1 h2=>hval j t v (by rw [←Array.getElem?_toList];exact h1) (by rw [←Array.getElem?_toList];exact h2)) hA hw (fun x hx=>hlt x (by simp [hx]))).mono ?_
  rintro e W' ⟨rfl,hb⟩
  exact ⟨_,rfl,law_post hl hres hvars ht (by rw [List.append_nil];exact hspec ds (trodAll_length hA).2) hW' hb⟩
theorem tabA_of{W:World}{D:DataW Unit}(hD:∀ ys:List (DataW Unit×List MemPlace),D = .agg (ys.map (·.1))→∀ j,j<64→∃ y,ys[j]?=some y∧y.1 = .lit (.int .u8 (Lib.deBruijn64tab.getD j 0)))
    {g0 : Nat} {t0 : TypeId} {cs0 : Array Value} {f0 : Nat} {p0 : List MemPlace} (hg0 : Tryz.prog.globalNamed "math/bits.deBruijn64tab" = some g0) (ht0 : (Tryz.prog.globals[g0]?).map (·.type) = some t0) (hv0 : W.var? Tryz.prog "math/bits.deBruijn64tab" = some cs0)
    (hd0:DataW.trod (fun _=>()) Tryz.prog W 0 (fun _=>true) false f0 t0 cs0.toList=some (D,p0)):TabA W:=by
  obtain rfl := Option.some.inj ((show Tryz.prog.globalNamed "math/bits.deBruijn64tab" = some 0 by kernel_rfl).symm.trans hg0)
  obtain rfl:=Option.some.inj ((show (Tryz.prog.globals[0]?).map (·.type)=some 98 by kernel_rfl).symm.trans ht0)
  obtain ⟨xs,m1,_,hx1,hlen,hn3,hel⟩:=DataW.trod_array Tryz.underlying98 hd0
  intro j hj
  simp only [Prod.mk.injEq] at hx1
  obtain ⟨y,hy,hy1⟩:=hD xs hx1.1 j hj
  have hj':=hel j hj
  rw [hy,show Tryz.prog.cellsOf 5=1 by kernel_rfl] at hj'
  obtain ⟨k,e1,e2,_⟩:=DataW.trod_int Tryz.underlying5 hj'
  have hk:k=Lib.deBruijn64tab.getD j 0:=by
    rw [e2] at hy1;simpa using hy1
  subst hk
  have:=World.var?_cell hg0 hv0 j
  rw [this]
  rw [Nat.mul_one] at e1
  have e3:(cs0.toList.drop j)[0]?=some (.int .u8 (Lib.deBruijn64tab.getD j 0)):=by
    have:((cs0.toList.drop j).take 1)[0]?=some (.int .u8 (Lib.deBruijn64tab.getD j 0)):=by rw [e1];rfl
    rwa [List.getElem?_take,if_pos (by omega)] at this
  rw [List.getElem?_drop,Nat.add_zero] at e3
  simpa using e3
theorem tab_of{W:World}{D:DataW Unit}(hD:∀ ys:List (DataW Unit×List MemPlace),D = .agg (ys.map (·.1))→∀ j,j<64→∃ y,ys[j]?=some y∧y.1 = .lit (.int .u8 (Lib.deBruijn64tab.getD j 0)))(hh:D.handleName?.isNone=true)
    (h : laidMetH Tryz.prog [("math/bits.deBruijn64tab", D)] W) : Tab W := by
  rw [MakeChecks.laidMetH_plain _ _ _ (by simp [hh])] at h
  obtain ⟨ps,⟨g0,t0,cs0,f0,p0,q0,hg0,ht0,hv0,hd0,_⟩,_⟩:=h
  exact ⟨tabA_of hD hg0 ht0 hv0 hd0,trivial⟩
end Go.Proofs.YtbboniaeoegeeaaGreatDoor
