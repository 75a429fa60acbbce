/-
Binary64 numbers, taken apart: dyad.From, ulpref04.From, bits.Neg.
Package trigpi: of, Both, Enclose.
Package ulpref18.
How sine, cosine and inverse tangent change from number to number; the tangent of the inverse tangent. Plain.
Sequences of angles: sums of them, the sine and the cosine of a quarter and of half of pi. Plain.
Sequences of angles that lie in an interval in the end: what holds of all numbers of the interval holds of them; the pair of half turns. Plain.
Package ulplaw18: the answers that the document gives; TrigpiEncloses, TrigpiBoth.
From the arguments of a row to numbers and intervals; what a law's call leaves.
-/
import Derived.Test.YtcgjbmbdkpapdaaGreatDoorMg3
import Derived.Test.YtcgjbmbdkpapdaaGreatDoorMg4
import Derived.Test.YtcgjbmbdkpapdaaGreatDoorMg2
import Derived.ProofKit
import Derived.LaidMore
import Derived.OpenShut
import Derived.LaidLaws
import Derived.Carry
import Derived.OpenVars
import Derived.Deep.Strs
import Derived.ChangeCalls
import Derived.Stop.Joined
namespace Go.Proofs.YtcgjbmbdkpapdaaGreatDoor
open Go.RowKit
theorem bv_word{a:Int}(h0:0≤a)(h1:a<18446744073709551616):(BitVec.ofInt 64 a).toNat=a.toNat:=by
  have e:((2^64:Nat):Int)=18446744073709551616:=by decide
  rw [BitVec.toNat_ofInt,e,Int.emod_eq_of_lt h0 h1]
theorem and_pow{a:Int}(h0:0≤a)(h1:a<18446744073709551616){m:Int}(k:Nat)(hk:k≤63)(hm:(BitVec.ofInt 64 m).toNat=2^k-1):bitsI .and .u64 a m=a % ((2^k:Nat):Int):=by
  have key:(BitVec.ofInt 64 a &&& BitVec.ofInt 64 m).toNat=a.toNat % 2^k:=by
    rw [BitVec.toNat_and,bv_word h0 h1,hm,Nat.and_two_pow_sub_one_eq_mod]
  show IntKind.u64.wrap ((BitVec.ofInt 64 a &&& BitVec.ofInt 64 m).toNat:Nat)=_
  rw [key,IntKind.wrap_u64]
  have l:=Nat.mod_lt a.toNat (Nat.two_pow_pos k)
  have l2:2^k≤2^63:=Nat.pow_le_pow_right (by decide) hk
  have c:a % ((2^k:Nat):Int)=((a.toNat % 2^k:Nat):Int):=by rw [Int.natCast_emod,Int.toNat_of_nonneg h0]
  rw [c]
  generalize a.toNat % 2^k=r at *
  omega
theorem or_bit{a:Int}(h0:0≤a)(h1:a<4503599627370496):bitsI .or .u64 a 4503599627370496=a+4503599627370496:=by
  have hm:(BitVec.ofInt 64 4503599627370496).toNat=2^52:=by decide
  have key:(BitVec.ofInt 64 a ||| BitVec.ofInt 64 4503599627370496).toNat=2^52+a.toNat:=by
    rw [BitVec.toNat_or,bv_word h0 (by omega),hm,Nat.or_comm]
    have:=Nat.two_pow_add_eq_or_of_lt (i:=52) (b:=a.toNat) (by omega) 1
    simpa using this.symm
  show IntKind.u64.wrap ((BitVec.ofInt 64 a ||| BitVec.ofInt 64 4503599627370496).toNat:Nat)=_
  rw [key,IntKind.wrap_u64]
  omega
def flipW(x:Int):Int:=if x<9223372036854775808 then x+9223372036854775808 else x-9223372036854775808
theorem xor_bit{a:Int}(h0:0≤a)(h1:a<18446744073709551616):bitsI .xor .u64 a 9223372036854775808=flipW a:=by
  have hm:(BitVec.ofInt 64 9223372036854775808).toNat=2^63:=by decide
  have key:(BitVec.ofInt 64 a ^^^ BitVec.ofInt 64 9223372036854775808).toNat=a.toNat ^^^ 2^63:=by
    rw [BitVec.toNat_xor,bv_word h0 h1,hm]
  have m:(a.toNat ^^^ 2^63) % 2^63=a.toNat % 2^63:=by
    rw [Nat.xor_mod_two_pow,Nat.mod_self,Nat.xor_zero]
  have d:(a.toNat ^^^ 2^63)/2^63=a.toNat/2^63 ^^^ 1:=by
    rw [Nat.xor_div_two_pow,Nat.div_self (Nat.two_pow_pos 63)]
  show IntKind.u64.wrap ((BitVec.ofInt 64 a ^^^ BitVec.ofInt 64 9223372036854775808).toNat:Nat)=_
  rw [key,IntKind.wrap_u64]
  generalize a.toNat ^^^ 2^63=z at *
  unfold flipW
  by_cases c:a<9223372036854775808
  · have q:a.toNat/2^63=0:=Nat.div_eq_of_lt (by omega)
    have e:(0 ^^^ 1:Nat)=1:=by decide
    rw [q,e] at d
    rw [if_pos c];omega
  · have q:a.toNat/2^63=1:=by omega
    have e:(1 ^^^ 1:Nat)=0:=by decide
    rw [q,e] at d
    rw [if_neg c];omega
theorem shr_52(x:Int):shrI .u64 x 52=x/4503599627370496:=by
  show x.fdiv (2^(min (52:Int).toNat 64))=_
  rw [Int.fdiv_eq_ediv_of_nonneg _ (by decide)];rfl
theorem shr_63(x:Int):shrI .u64 x 63=x/9223372036854775808:=by
  show x.fdiv (2^(min (63:Int).toNat 64))=_
  rw [Int.fdiv_eq_ediv_of_nonneg _ (by decide)];rfl
def fexp(x:Int):Int:=x/4503599627370496 % 2048
def ffr(x:Int):Int:=x % 4503599627370496
def fneg(x:Int):Bool:=decide (9223372036854775808≤x)
def fltM(x:Int):Int:=if fexp x=0 then ffr x else ffr x+4503599627370496
def fltE(x:Int):Int:=if fexp x=0 then -1074 else fexp x-1075
def fltD(x:Int):Dx:=mkD (fneg x) (fltM x) (fltE x)
def fromR(x:Int):Dx×Int:=if fexp x=2047 then (⟨false,[],0⟩,5) else (fltD x,0)
def tyFd:TyRow:=⟨93,3,true,[.bool false,.int .i64 0,.int .u64 0],.struct [(0,1,false),(1,1,false),(2,1,false)]⟩
def tysF:List TyRow:=tyFd :: tysU
theorem tysF_ok:RowsOk Tryz.prog tysF:=⟨by kernel_rfl,tysU_ok⟩
theorem dFrom_vc(x:Int)(Q:Tv→Prop):execF ⟨tysF,sRaw8⟩ (fun _=>none) 0 Tryz.f37 [.one (.int .u64 x)] Q=((0:Int)≤52∧br (eqI (IntKind.wrap IntKind.i64 (bitsI BinOp.and IntKind.u64 (shrI IntKind.u64 x 52) 2047)) 2047) (Q (Tv.tup [Sv.agg [At.bool false,At.words true [],At.int .i64 0],Sv.one (At.int .i64 5)])) (br (eqI (IntKind.wrap IntKind.i64 (bitsI BinOp.and IntKind.u64 (shrI IntKind.u64 x 52) 2047)) 0) ((0:Int)≤63∧Words [bitsI BinOp.and IntKind.u64 x 4503599627370495]∧inR ((1:Int)-1075)∧((-4611686018427387904:Int)≤1-1075∧(1:Int)-1075≤4611686018427387904)∧Q (Tv.tup [Sv.agg (dyL true (mkD (eqI (shrI IntKind.u64 x 63) 1) (val [bitsI BinOp.and IntKind.u64 x 4503599627370495]) ((1:Int)-1075))),Sv.one (At.int .i64 0)])) ((0:Int)≤63∧Words [bitsI BinOp.or IntKind.u64 (bitsI BinOp.and IntKind.u64 x 4503599627370495) 4503599627370496]∧inR (IntKind.wrap IntKind.i64 (bitsI BinOp.and IntKind.u64 (shrI IntKind.u64 x 52) 2047)-1075)∧((-4611686018427387904:Int)≤IntKind.wrap IntKind.i64 (bitsI BinOp.and IntKind.u64 (shrI IntKind.u64 x 52) 2047)-1075∧IntKind.wrap IntKind.i64 (bitsI BinOp.and IntKind.u64 (shrI IntKind.u64 x 52) 2047)-1075≤4611686018427387904)∧Q (Tv.tup [Sv.agg (dyL true (mkD (eqI (shrI IntKind.u64 x 63) 1) (val [bitsI BinOp.or IntKind.u64 (bitsI BinOp.and IntKind.u64 x 4503599627370495) 4503599627370496]) (IntKind.wrap IntKind.i64 (bitsI BinOp.and IntKind.u64 (shrI IntKind.u64 x 52) 2047)-1075))),Sv.one (At.int .i64 0)])))):=by kernel_rfl
theorem fexp_bd(x:Int):0≤fexp x∧fexp x<2048:=by unfold fexp;omega
theorem ffr_bd(x:Int):0≤ffr x∧ffr x<4503599627370496:=by unfold ffr;omega
theorem val_one1(n:Int):val [n]=n:=by rw [val_cons];simp [val]
theorem words_one{n:Int}(h0:0≤n)(h1:n<18446744073709551616):Words [n]:=fun x hx=>by
  rcases List.mem_singleton.1 hx with rfl;exact ⟨h0,h1⟩
def dFrom:Spec:=specK [.i .u64] fun (x:Int)=>(some (Word x),rdT (fromR x))
theorem dFrom_ok:SpecOk Tryz.prog 37 dFrom :=
  specKW_ok (envOk tysF_ok sRaw8_ok) mixed Tryz.func37 rfl (by decide) (by decide) fun (x:Int) _ hp=>⟨fun _=>none,0,by
    obtain ⟨h0,h1⟩:0≤x∧x<18446744073709551616:=hp
    show execF _ _ _ _ _ (fun t=>t=rdT (fromR x)∨fgT t=rdT (fromR x))
    have e1:IntKind.wrap .i64 (bitsI .and .u64 (shrI .u64 x 52) 2047)=fexp x:=by
      rw [shr_52,and_pow (k:=11) (by omega) (by omega) (by decide) (by decide),IntKind.wrap_i64]
      unfold fexp;omega
    have e2:bitsI .and .u64 x 4503599627370495=ffr x:=and_pow (k:=52) h0 h1 (by decide) (by decide)
    obtain ⟨b0,b1⟩:=ffr_bd x
    obtain ⟨c0,c1⟩:=fexp_bd x
    have e3:bitsI .or .u64 (ffr x) 4503599627370496=ffr x+4503599627370496:=or_bit b0 b1
    have e4:eqI (shrI .u64 x 63) 1=fneg x:=by
      rw [shr_63]
      unfold fneg eqI
      by_cases c:9223372036854775808≤x
      · rw [decide_eq_true c,show x/9223372036854775808=1 by omega];rfl
      · rw [decide_eq_false c,show x/9223372036854775808=0 by omega];rfl
    refine (dFrom_vc x _).mpr ?_
    rw [e1,e2,e3,e4,val_one1,val_one1]
    refine ⟨by omega,br_intro (fun h=>.inr ?_) fun h=>br_intro (fun k=>⟨by omega,words_one b0 (by omega),⟨by omega,by omega⟩,⟨by omega,by omega⟩,.inr ?_⟩) fun k=>⟨by omega,words_one (by omega) (by omega),⟨by omega,by omega⟩,⟨by omega,by omega⟩,.inr ?_⟩⟩
    · rw [fromR,if_pos (eqI_true.1 h)];rfl
    · rw [fromR,if_neg (eqI_false.1 h),fltD,fltM,fltE,if_pos (eqI_true.1 k),if_pos (eqI_true.1 k)];rfl
    · rw [fromR,if_neg (eqI_false.1 h),fltD,fltM,fltE,if_neg (eqI_false.1 k),if_neg (eqI_false.1 k)];rfl⟩
theorem oFin_vc(x:Int)(Q:Tv→Prop):execF ⟨tysF,sRaw8⟩ (fun _=>none) 0 Tryz.f42 [.one (.int .u64 x)] Q=((9223372036854775808:Int)≠0∧Q (bT (ltI (Int.tmod x 9223372036854775808) 9218868437227405312))):=by kernel_rfl
def finB(x:Int):Bool:=!eqI (fexp x) 2047
def oFin:Spec:=specK [.i .u64] fun (x:Int)=>(some (Word x),bT (finB x))
theorem oFin_ok:SpecOk Tryz.prog 42 oFin :=
  specK_ok (envOk tysF_ok sRaw8_ok) mixed Tryz.func42 rfl (by decide) (by decide) fun (x:Int) _ hp=>⟨fun _=>none,0,by
    obtain ⟨h0,h1⟩:0≤x∧x<18446744073709551616:=hp
    show execF _ _ _ _ _ (fun t=>t=bT (finB x))
    refine (oFin_vc x _).mpr ⟨by omega,?_⟩
    have e:ltI (x.tmod 9223372036854775808) 9218868437227405312=finB x:=by
      rw [Int.tmod_eq_emod_of_nonneg h0]
      unfold ltI finB eqI fexp
      by_cases c:x % 9223372036854775808<9218868437227405312
      · have:x/4503599627370496 % 2048≠2047:=by omega
        rw [decide_eq_true c];simp [this]
      · have:x/4503599627370496 % 2048=2047:=by omega
        rw [decide_eq_false c,this];rfl
    rw [e]⟩
theorem oSpl_vc(x:Int)(Q:Tv→Prop):execF ⟨tysF,sRaw8⟩ (fun _=>none) 0 Tryz.f79 [.one (.int .u64 x)] Q=((4503599627370496:Int)≠0∧(2048:Int)≠0∧(4503599627370496:Int)≠0∧Q (Tv.sv (Sv.agg [At.bool (leI 9223372036854775808 x),At.int .i64 (IntKind.wrap IntKind.i64 (Int.tmod (IntKind.wrap IntKind.u64 (Int.tdiv x 4503599627370496)) 2048)),At.int .u64 (Int.tmod x 4503599627370496)]))):=by kernel_rfl
def splX(n:Bool)(e f:Int):Tv:=.sv (.agg [.bool n,.int .i64 e,.int .u64 f])
def oSpl:Spec:=specK [.i .u64] fun (x:Int)=>(some (Word x),splX (fneg x) (fexp x) (ffr x))
theorem oSpl_ok:SpecOk Tryz.prog 79 oSpl :=
  specK_ok (envOk tysF_ok sRaw8_ok) mixed Tryz.func79 rfl (by decide) (by decide) fun (x:Int) _ hp=>⟨fun _=>none,0,by
    obtain ⟨h0,h1⟩:0≤x∧x<18446744073709551616:=hp
    show execF _ _ _ _ _ (fun t=>t=splX (fneg x) (fexp x) (ffr x))
    refine (oSpl_vc x _).mpr ⟨by omega,by omega,by omega,?_⟩
    have e1:IntKind.wrap .i64 (Int.tmod (IntKind.wrap .u64 (Int.tdiv x 4503599627370496)) 2048)=fexp x:=by
      rw [Int.tdiv_eq_ediv_of_nonneg h0,IntKind.wrap_u64,Int.tmod_eq_emod_of_nonneg (by omega),IntKind.wrap_i64]
      unfold fexp;omega
    rw [e1,Int.tmod_eq_emod_of_nonneg h0];rfl⟩
def sFr:List (FuncId×Spec):=[(42,oFin),(79,oSpl),(70,nOf),(66,fForm)]
theorem sFr_ok:SpecsOk Tryz.prog sFr:=⟨oFin_ok,oSpl_ok,nOf_ok,fForm_ok,trivial⟩
theorem fFrom_vc(x:Int)(Q:Tv→Prop):execF ⟨tysF,sFr⟩ (fun _=>none) 0 Tryz.f43 [.one (.int .u64 x)] Q=(Word x∧br (!finB x) (Q (Tv.tup [Sv.agg [At.bool false,At.words true [],At.int .i64 0],Sv.one (At.int .i64 5)])) (Word x∧br (ltI 0 (fexp x)) (inR (fexp x-1075)∧Word (IntKind.wrap IntKind.u64 (ffr x+4503599627370496))∧((-4611686018427387904:Int)≤fexp x-1075∧fexp x-1075≤4611686018427387904)∧true=true∧Q (Tv.tup [Sv.agg (dyL true (mkD (fneg x) (val (ws (IntKind.wrap IntKind.u64 (ffr x+4503599627370496)))) (fexp x-1075))),Sv.one (At.int .i64 0)])) (Word (ffr x)∧((-4611686018427387904:Int)≤(-1074)∧(-1074:Int)≤4611686018427387904)∧true=true∧Q (Tv.tup [Sv.agg (dyL true (mkD (fneg x) (val (ws (ffr x))) (-1074))),Sv.one (At.int .i64 0)])))):=by kernel_rfl
def fFrom:Spec:=specK [.i .u64] fun (x:Int)=>(some (Word x),rdT (fromR x))
theorem fFrom_ok:SpecOk Tryz.prog 43 fFrom :=
  specKW_ok (envOk tysF_ok sFr_ok) mixed Tryz.func43 rfl (by decide) (by decide) fun (x:Int) _ hp=>⟨fun _=>none,0,by
    obtain ⟨h0,h1⟩:0≤x∧x<18446744073709551616:=hp
    show execF _ _ _ _ _ (fun t=>t=rdT (fromR x)∨fgT t=rdT (fromR x))
    obtain ⟨b0,b1⟩:=ffr_bd x
    obtain ⟨c0,c1⟩:=fexp_bd x
    have e1:IntKind.wrap .u64 (ffr x+4503599627370496)=ffr x+4503599627370496:=wrap_small (by omega) (by omega)
    refine (fFrom_vc x _).mpr ⟨⟨h0,h1⟩,br_intro (fun h=>.inr ?_) fun h=>⟨⟨h0,h1⟩,br_intro (fun k=>?_) fun k=>?_⟩⟩
    · have h:finB x=false:=not_true h
      unfold finB at h
      rw [fromR,if_pos (eqI_true.1 (not_false' h))];rfl
    · have h:finB x=true:=not_false' h
      unfold finB at h
      have k:=ltI_true.1 k
      rw [e1,val_ws (by omega)]
      refine ⟨⟨by omega,by omega⟩,⟨by omega,by omega⟩,⟨by omega,by omega⟩,rfl,.inr ?_⟩
      rw [fromR,if_neg (eqI_false.1 (not_true h)),fltD,fltM,fltE,if_neg (by omega),if_neg (by omega)];rfl
    · have h:finB x=true:=not_false' h
      unfold finB at h
      have k:=ltI_false.1 k
      rw [val_ws (by omega)]
      refine ⟨⟨by omega,by omega⟩,⟨by omega,by omega⟩,rfl,.inr ?_⟩
      rw [fromR,if_neg (eqI_false.1 (not_true h)),fltD,fltM,fltE,if_pos (by omega),if_pos (by omega)];rfl⟩
theorem bNeg_vc(x:Int)(Q:Tv→Prop):execF ⟨tysF,sRaw8⟩ (fun _=>none) 0 Tryz.f23 [.one (.int .u64 x)] Q=(Q (Tv.sv (Sv.one (At.int .u64 (bitsI BinOp.xor IntKind.u64 x 9223372036854775808))))):=by kernel_rfl
def bNeg:Spec:=specK [.i .u64] fun (x:Int)=>(some (Word x),.sv (.one (.int .u64 (flipW x))))
theorem bNeg_ok:SpecOk Tryz.prog 23 bNeg :=
  specK_ok (envOk tysF_ok sRaw8_ok) mixed Tryz.func23 rfl (by decide) (by decide) fun (x:Int) _ hp=>⟨fun _=>none,0,by
    obtain ⟨h0,h1⟩:0≤x∧x<18446744073709551616:=hp
    show execF _ _ _ _ _ (fun t=>t = .sv (.one (.int .u64 (flipW x))))
    refine (bNeg_vc x _).mpr ?_
    rw [xor_bit h0 h1]⟩
def sOf(tf:Dx→Int×Dx×Int)(nf:Dx→Int→(Vx×Vx)×Int)(gf:Int→Vx×Vx→Vx×Vx)(pr:Dx→Int→Prop)(pg:Vx×Vx→Int→Prop):List (FuncId×Spec):=[(72,specK [.d] fun (x:Dx)=>(none,turT (tf x))),(73,specK [.d,.i .i64] fun (r:Dx) (p:Int)=>(some (pr r p),pnT (nf r p))),(74,specK [.p,.i .i64] fun (b:Vx×Vx) (k:Int)=>(some (pg b k),pF (gf k b)))]
theorem tOf_vc(x:Dx)(p:Int)(tf:Dx→Int×Dx×Int)(nf:Dx→Int→(Vx×Vx)×Int)(gf:Int→Vx×Vx→Vx×Vx)(pr:Dx→Int→Prop)(pg:Vx×Vx→Int→Prop)(Q:Tv→Prop):execF ⟨tysT,sOf tf nf gf pr pg⟩ (fun _=>none) 0 Tryz.f38 [.agg (dyL false x),.one (.int .i64 p)] Q=(br (neI (tf x).snd.snd 0) (Q (Tv.tup [Sv.agg [At.bool false,At.words true [],At.int .i64 0,At.bool false,At.words true [],At.int .i64 0,At.bool false,At.words true [],At.int .i64 0,At.bool false,At.words true [],At.int .i64 0],Sv.one (At.int .i64 (tf x).snd.snd)])) (pr (tf x).snd.fst p∧br (neI (nf (tf x).snd.fst p).snd 0) (Q (Tv.tup [Sv.agg [At.bool false,At.words true [],At.int .i64 0,At.bool false,At.words true [],At.int .i64 0,At.bool false,At.words true [],At.int .i64 0,At.bool false,At.words true [],At.int .i64 0],Sv.one (At.int .i64 (nf (tf x).snd.fst p).snd)])) (pg (nf (tf x).snd.fst p).fst (tf x).fst∧Q (Tv.tup [Sv.agg (At.bool (gf (tf x).fst (nf (tf x).snd.fst p).fst).fst.lo.neg :: At.words false (gf (tf x).fst (nf (tf x).snd.fst p).fst).fst.lo.xs :: At.int .i64 (gf (tf x).fst (nf (tf x).snd.fst p).fst).fst.lo.e :: At.bool (gf (tf x).fst (nf (tf x).snd.fst p).fst).fst.hi.neg :: At.words false (gf (tf x).fst (nf (tf x).snd.fst p).fst).fst.hi.xs :: At.int .i64 (gf (tf x).fst (nf (tf x).snd.fst p).fst).fst.hi.e :: ivL false (gf (tf x).fst (nf (tf x).snd.fst p).fst).snd),Sv.one (At.int .i64 0)])))):=by kernel_rfl
def sBp(of:Dx→Int→(Vx×Vx)×Int)(po:Dx→Int→Prop)(tr:Vx→Int→Vx):List (FuncId×Spec):=[(38,specK [.d,.i .i64] fun (x:Dx) (p:Int)=>(some (po x p),pnT (of x p))),(41,specK [.v,.i .i64] fun (v:Vx) (p:Int)=>(some (v.Sm 34359738368∧0≤p∧p≤1099511627776),vT (tr v p)))]
theorem tBp_vc(x:Dx)(p:Int)(of:Dx→Int→(Vx×Vx)×Int)(po:Dx→Int→Prop)(tr:Vx→Int→Vx)(Q:Tv→Prop):execF ⟨tysT,sBp of po tr⟩ (fun _=>none) 0 Tryz.f26 [.agg (dyL false x),.one (.int .i64 p)] Q=(br (ltI p 8) (Q (Tv.tup [Sv.agg [At.bool false,At.words true [],At.int .i64 0,At.bool false,At.words true [],At.int .i64 0],Sv.agg [At.bool false,At.words true [],At.int .i64 0,At.bool false,At.words true [],At.int .i64 0],Sv.one (At.int .i64 2)])) (br (ltI 2048 p) (Q (Tv.tup [Sv.agg [At.bool false,At.words true [],At.int .i64 0,At.bool false,At.words true [],At.int .i64 0],Sv.agg [At.bool false,At.words true [],At.int .i64 0,At.bool false,At.words true [],At.int .i64 0],Sv.one (At.int .i64 2)])) (po x p∧br (neI (of x p).snd 0) (Q (Tv.tup [Sv.agg [At.bool false,At.words true [],At.int .i64 0,At.bool false,At.words true [],At.int .i64 0],Sv.agg [At.bool false,At.words true [],At.int .i64 0,At.bool false,At.words true [],At.int .i64 0],Sv.one (At.int .i64 (of x p).snd)])) (inR (p+8)∧(Vx.Sm 34359738368 (of x p).fst.fst∧(0:Int)≤p+8∧p+8≤1099511627776)∧inR (p+8)∧(Vx.Sm 34359738368 (of x p).fst.snd∧(0:Int)≤p+8∧p+8≤1099511627776)∧true=true∧Q (Tv.tup [Sv.agg (ivL true (tr (of x p).fst.fst (p+8))),Sv.agg (ivL true (tr (of x p).fst.snd (p+8))),Sv.one (At.int .i64 0)]))))):=by kernel_rfl
theorem tIs_vc(f:Int)(Q:Tv→Prop):execF ⟨tysT,[]⟩ (fun _=>none) 0 Tryz.f12 [.one (.int .u8 f)] Q=(br (leI 16 f) (Q (bT (leI f 18))) (Q (bT false))):=by kernel_rfl
theorem hIs_vc(f:Int)(Q:Tv→Prop):execF ⟨tysT,[]⟩ (fun _=>none) 0 Tryz.f13 [.one (.int .u8 f)] Q=(br (leI 16 f) (Q (bT (leI f 18))) (Q (bT false))):=by kernel_rfl
def sEp(is:Int→Bool)(fr:Int→Dx×Int)(of:Dx→Int→(Vx×Vx)×Int)(po:Dx→Int→Prop)(tr:Vx→Int→Vx)(ho:Vx→Bool)(dv:Vx→Vx→Int→Vx):List (FuncId×Spec):=[(12,specK [.i .u8] fun (f:Int)=>(none,bT (is f))),(37,specK [.i .u64] fun (x:Int)=>(some (Word x),rdT (fr x))),(39,specK [.v] fun (v:Vx)=>(none,bT (ho v))),(40,specK [.v,.v,.i .i64] fun (v:Vx) (u:Vx) (p:Int)=>(some (v.Sm 67108864∧u.Sm 67108864∧u.lo.m≠0∧u.hi.m≠0∧0≤p∧p≤67108864),vF (dv v u p)))] ++ sBp of po tr
theorem tEp_vc(f x p:Int)(is:Int→Bool)(fr:Int→Dx×Int)(of:Dx→Int→(Vx×Vx)×Int)(po:Dx→Int→Prop)(tr:Vx→Int→Vx)(ho:Vx→Bool)(dv:Vx→Vx→Int→Vx)(Q:Tv→Prop):execF ⟨tysT,sEp is fr of po tr ho dv⟩ (fun _=>none) 0 Tryz.f10 [.one (.int .u8 f),.one (.int .u64 x),.one (.int .i64 p)] Q=(br (!is f) (Q (Tv.tup [Sv.agg [At.bool false,At.words true [],At.int .i64 0,At.bool false,At.words true [],At.int .i64 0],Sv.one (At.int .i64 2)])) (br (ltI p 8) (Q (Tv.tup [Sv.agg [At.bool false,At.words true [],At.int .i64 0,At.bool false,At.words true [],At.int .i64 0],Sv.one (At.int .i64 2)])) (br (ltI 2048 p) (Q (Tv.tup [Sv.agg [At.bool false,At.words true [],At.int .i64 0,At.bool false,At.words true [],At.int .i64 0],Sv.one (At.int .i64 2)])) (Word x∧br (neI (fr x).snd 0) (Q (Tv.tup [Sv.agg [At.bool false,At.words true [],At.int .i64 0,At.bool false,At.words true [],At.int .i64 0],Sv.one (At.int .i64 (fr x).snd)])) (inR (p+8)∧po (fr x).fst (p+8)∧br (neI (of (fr x).fst (p+8)).snd 0) (Q (Tv.tup [Sv.agg [At.bool false,At.words true [],At.int .i64 0,At.bool false,At.words true [],At.int .i64 0],Sv.one (At.int .i64 (of (fr x).fst (p+8)).snd)])) (br (eqI f 17) (inR (p+8)∧(Vx.Sm 34359738368 (of (fr x).fst (p+8)).fst.snd∧(0:Int)≤p+8∧p+8≤1099511627776)∧Q (Tv.tup [Sv.agg (ivL true (tr (of (fr x).fst (p+8)).fst.snd (p+8))),Sv.one (At.int .i64 0)])) (br (eqI f 18) (br (ho (of (fr x).fst (p+8)).fst.snd) (Q (Tv.tup [Sv.agg [At.bool false,At.words true [],At.int .i64 0,At.bool false,At.words true [],At.int .i64 0],Sv.one (At.int .i64 5)])) (inR (p+16)∧(Vx.Sm 67108864 (of (fr x).fst (p+8)).fst.fst∧Vx.Sm 67108864 (of (fr x).fst (p+8)).fst.snd∧Dx.m (of (fr x).fst (p+8)).fst.snd.lo≠0∧Dx.m (of (fr x).fst (p+8)).fst.snd.hi≠0∧(0:Int)≤p+16∧p+16≤67108864)∧inR (p+8)∧(Vx.Sm 34359738368 (dv (of (fr x).fst (p+8)).fst.fst (of (fr x).fst (p+8)).fst.snd (p+16))∧(0:Int)≤p+8∧p+8≤1099511627776)∧Q (Tv.tup [Sv.agg (ivL true (tr (dv (of (fr x).fst (p+8)).fst.fst (of (fr x).fst (p+8)).fst.snd (p+16)) (p+8))),Sv.one (At.int .i64 0)]))) (inR (p+8)∧(Vx.Sm 34359738368 (of (fr x).fst (p+8)).fst.fst∧(0:Int)≤p+8∧p+8≤1099511627776)∧Q (Tv.tup [Sv.agg (ivL true (tr (of (fr x).fst (p+8)).fst.fst (p+8))),Sv.one (At.int .i64 0)]))))))))):=by kernel_rfl
theorem of_half{x:Dx}(hx:0≤x.m){p:Int}(p0:8≤p)(p1:p≤2064)(h:(ofTp x p).2=0):∃ s c,Half (p2 (-19-p)) (ofTp x p).1.1 s∧Half (p2 (-19-p)) (ofTp x p).1.2 c:=by
  unfold ofTp at h ⊢
  split at h
  · rename_i h1
    rw [if_pos h1]
    split at h
    · rename_i h2
      rw [if_pos h2]
      obtain ⟨f,l1,l2,k0,k1⟩:=tur_small hx h1
      rcases nearT_ok f.p l1 l2 p0 p1 (p':=8) (by decide) (by decide) with ⟨S,C,t,e,two,_⟩|⟨e,_⟩
      · rw [e]
        obtain ⟨a,b⟩:=turn_half two.s two.c (turR x).1
        exact ⟨_,_,a,b⟩
      · rw [e] at h2;cases h2
    · rename_i h2;exact absurd h h2
  · rename_i h1;exact absurd h h1
def tOf:Spec:=specK [.d,.i .i64] fun (x:Dx) (p:Int)=>(some (8≤p∧p≤2064),pnT (ofTp x p))
theorem sOf_ok:SpecsOk Tryz.prog (sOf turR nearT turnP (fun r p=>r.Bd 131072 131072∧8≤p∧p≤4096) (fun b k=>eP b∧0≤k∧k≤3)):=⟨qTurns_ok,tNr_ok,tTn_ok,trivial⟩
theorem right_eB{v:Vx}(h:rightV v=true):eB 4611686018427387904 v.lo∧eB 4611686018427387904 v.hi:=⟨(fits_sm (right_fits h).1).eB (by omega),(fits_sm (right_fits h).2.1).eB (by omega)⟩
theorem tOf_ok:SpecOk Tryz.prog 38 tOf :=
  specKW_ok (envOk tysT_ok sOf_ok) mixed Tryz.func38 rfl (by decide) (by decide) fun (x:Dx) hw (p:Int) _ hp=>⟨fun _=>none,0,by
    obtain ⟨p0,p1⟩:8≤p∧p≤2064:=hp
    have hx:=Dx.Wf.m0 hw
    show execF _ _ _ _ _ (fun t=>t=pnT (ofTp x p)∨fgT t=pnT (ofTp x p))
    refine (tOf_vc x p turR nearT turnP _ _ _).mpr (br_intro (fun h=>.inr ?_) fun h=>?_)
    · rw [ofTp,if_neg (neI_true.1 h)];rfl
    have h0:=neI_false.1 h
    obtain ⟨f,l1,l2,k0,k1⟩:=tur_small hx h0
    obtain ⟨_,_,h3,h4⟩:=tur_ok h0
    have hb:(turR x).2.1.Bd 131072 131072:=by rw [h4];exact (fits_bd h3).mono (by omega) (by omega)
    refine ⟨⟨hb,p0,by omega⟩,br_intro (fun k=>.inr ?_) fun k=>?_⟩
    · rw [ofTp,if_pos h0,if_neg (neI_true.1 k)];rfl
    have e2:=neI_false.1 k
    refine ⟨⟨?_,k0,k1⟩,.inl ?_⟩
    · rcases nearT_ok f.p l1 l2 p0 p1 (p':=8) (by decide) (by decide) with ⟨S,C,t,e,two,_⟩|⟨e,_⟩
      · rw [e];exact ⟨right_eB two.s.r,right_eB two.c.r⟩
      · rw [e] at e2;cases e2
    · rw [ofTp,if_pos h0,if_pos e2];rfl⟩
def tBp:Spec:=specK [.d,.i .i64] fun (x:Dx) (p:Int)=>(none,reT2 (bothTp x p))
theorem sBp_ok:SpecsOk Tryz.prog (sBp ofTp (fun _ p=>8≤p∧p≤2064) trimV):=⟨tOf_ok,rTrim_ok,trivial⟩
theorem tBp_ok:SpecOk Tryz.prog 26 tBp :=
  specKW_ok (envOk tysT_ok sBp_ok) mixed Tryz.func26 rfl (by decide) (by decide) fun (x:Dx) hw (p:Int) _ hp=>⟨fun _=>none,0,by
    have hx:=Dx.Wf.m0 hw
    show execF _ _ _ _ _ (fun t=>t=reT2 (bothTp x p)∨fgT t=reT2 (bothTp x p))
    refine (tBp_vc x p ofTp _ trimV _).mpr (br_intro (fun h=>.inr ?_) fun h=>br_intro (fun h'=>.inr ?_) fun h'=>?_)
    · have:=ltI_true.1 h
      rw [bothTp,if_neg (by omega)];rfl
    · have:=ltI_true.1 h'
      rw [bothTp,if_neg (by omega)];rfl
    have a:=ltI_false.1 h
    have b:=ltI_false.1 h'
    refine ⟨⟨by omega,by omega⟩,br_intro (fun k=>.inr ?_) fun k=>?_⟩
    · rw [bothTp,if_pos ⟨by omega,by omega⟩,if_neg (neI_true.1 k)];rfl
    have e:=neI_false.1 k
    obtain ⟨s,c,hs,hc⟩:=of_half hx (by omega) (by omega) e
    refine ⟨⟨by omega,by omega⟩,⟨(right_sm hs.r).mono (by omega),by omega,by omega⟩,⟨by omega,by omega⟩,⟨(right_sm hc.r).mono (by omega),by omega,by omega⟩,rfl,.inr ?_⟩
    rw [bothTp,if_pos ⟨by omega,by omega⟩,if_pos e];rfl⟩
def isPi(f:Int):Bool:=leI 16 f && leI f 18
def wIs(is:Int→Bool):Spec:=specK [.i .u8] fun (f:Int)=>(none,bT (is f))
theorem tIs_ok:SpecOk Tryz.prog 12 (wIs isPi) :=
  specK_ok (envOk (S:=[]) tysT_ok trivial) mixed Tryz.func12 rfl (by decide) (by decide) fun (f:Int) _ _=>⟨fun _=>none,0,by
    show execF _ _ _ _ _ (fun t=>t=bT (isPi f))
    refine (tIs_vc f _).mpr (br_intro (fun h=>?_) fun h=>?_)<;>rw [isPi,h]<;>rfl⟩
theorem hIs_ok:SpecOk Tryz.prog 13 (wIs isPi) :=
  specK_ok (envOk (S:=[]) tysT_ok trivial) mixed Tryz.func13 rfl (by decide) (by decide) fun (f:Int) _ _=>⟨fun _=>none,0,by
    show execF _ _ _ _ _ (fun t=>t=bT (isPi f))
    refine (hIs_vc f _).mpr (br_intro (fun h=>?_) fun h=>?_)<;>rw [isPi,h]<;>rfl⟩
def encTp(f x p:Int):Vx×Int :=
  if isPi f=true∧8≤p∧p≤2048 then
    if fexp x=2047 then (zeroIv,5) else
    if (ofTp (fltD x) (p+8)).2=0 then
      if f=17 then (trimV (ofTp (fltD x) (p+8)).1.2 (p+8),0) else
      if f=18 then (if zeroV (ofTp (fltD x) (p+8)).1.2=true then (zeroIv,5) else (trimV (divV (ofTp (fltD x) (p+8)).1.1 (ofTp (fltD x) (p+8)).1.2 (p+16)) (p+8),0)) else
      (trimV (ofTp (fltD x) (p+8)).1.1 (p+8),0)
    else (zeroIv,(ofTp (fltD x) (p+8)).2)
  else (zeroIv,2)
theorem divV_sm{v u:Vx}{N:Nat}{p:Int}(hv:v.P)(hu:u.P)(sv:v.Sm N)(su:u.Sm N)(p0:0≤p)(p1:p≤N):(divV v u p).Sm (100*N+100):=by
  have o:∀ {a b:Dx} {up:Bool},0≤a.m→0≤b.m→a.Sm N→b.Sm N→(overD a b p up).Sm (100*N+100):=fun ha hb sa sb=>overD_sm ha hb sa sb p0 p1
  have q:∀ up,(quoV v u p up).Sm (100*N+100):=fun up=>spanL_sm (o hv.1 hu.1 sv.1 su.1) (o hv.1 hu.2 sv.1 su.2) (o hv.2 hu.1 sv.2 su.1) (o hv.2 hu.2 sv.2 su.2)
  exact ⟨(q false).1,(q true).2⟩
theorem fltD_p(x:Int):0≤(fltD x).m:=mkD_p
def tEp:Spec:=specK [.i .u8,.i .u64,.i .i64] fun (f x p:Int)=>(some (Word x),reT (encTp f x p))
theorem sEp_ok:SpecsOk Tryz.prog (sEp isPi fromR ofTp (fun _ p=>8≤p∧p≤2064) trimV zeroV divV):=⟨tIs_ok,dFrom_ok,rHolds0_ok,rDiv_ok,tOf_ok,rTrim_ok,trivial⟩
theorem tEp_ok:SpecOk Tryz.prog 10 tEp :=
  specKW_ok (envOk tysT_ok sEp_ok) mixed Tryz.func10 rfl (by decide) (by decide) fun (f:Int) _ (x:Int) _ (p:Int) _ hp=>⟨fun _=>none,0,by
    have hw:Word x:=hp
    show execF _ _ _ _ _ (fun t=>t=reT (encTp f x p)∨fgT t=reT (encTp f x p))
    refine (tEp_vc f x p isPi fromR ofTp _ trimV zeroV divV _).mpr (br_intro (fun h=>.inr ?_) fun h=>br_intro (fun h'=>.inr ?_) fun h'=>br_intro (fun h''=>.inr ?_) fun h''=>⟨hw,br_intro (fun k=>.inr ?_) fun k=>?_⟩)
    · rw [encTp,if_neg (by rw [not_true h];simp)];rfl
    · have:=ltI_true.1 h'
      rw [encTp,if_neg (by omega)];rfl
    · have:=ltI_true.1 h''
      rw [encTp,if_neg (by omega)];rfl
    · have c:isPi f=true∧8≤p∧p≤2048:=⟨not_false' h,by have:=ltI_false.1 h';omega,by have:=ltI_false.1 h'';omega⟩
      have k:=neI_true.1 k
      have e:fexp x=2047:=Classical.byContradiction fun c=>k (by rw [fromR,if_neg c])
      rw [encTp,if_pos c,if_pos e,fromR,if_pos e];rfl
    have c:isPi f=true∧8≤p∧p≤2048:=⟨not_false' h,by have:=ltI_false.1 h';omega,by have:=ltI_false.1 h'';omega⟩
    have k:=neI_false.1 k
    have e:¬ fexp x=2047:=fun c=>by rw [fromR,if_pos c] at k;cases k
    have ef:fromR x=(fltD x,0):=by rw [fromR,if_neg e]
    rw [ef]
    refine ⟨⟨by omega,by omega⟩,⟨by omega,by omega⟩,br_intro (fun z=>.inr ?_) fun z=>?_⟩
    · rw [encTp,if_pos c,if_neg e,if_neg (neI_true.1 z)];rfl
    have z:=neI_false.1 z
    obtain ⟨s,t,hs,ht⟩:=of_half (fltD_p x) (p:=p+8) (by omega) (by omega) z
    have ss:=right_sm hs.r
    have st:=right_sm ht.r
    refine br_intro (fun f1=>⟨⟨by omega,by omega⟩,⟨st.mono (by omega),by omega,by omega⟩,.inr ?_⟩) fun f1=>br_intro (fun f2=>br_intro (fun o=>.inr ?_) fun o=>?_) fun f2=>⟨⟨by omega,by omega⟩,⟨ss.mono (by omega),by omega,by omega⟩,.inr ?_⟩
    · rw [encTp,if_pos c,if_neg e,if_pos z,if_pos (eqI_true.1 f1)];rfl
    · rw [encTp,if_pos c,if_neg e,if_pos z,if_neg (eqI_false.1 f1),if_pos (eqI_true.1 f2),if_pos o];rfl
    · obtain ⟨z1,z2⟩:=not_zero_ends ht.p ht.r o
      have sd:=divV_sm (p:=p+16) hs.p ht.p ss st (by omega) (by omega)
      refine ⟨⟨by omega,by omega⟩,⟨ss.mono (by omega),st.mono (by omega),z1,z2,by omega,by omega⟩,⟨by omega,by omega⟩,⟨sd.mono (by omega),by omega,by omega⟩,.inr ?_⟩
      rw [encTp,if_pos c,if_neg e,if_pos z,if_neg (eqI_false.1 f1),if_pos (eqI_true.1 f2),if_neg (by rw [o];simp)];rfl
    · rw [encTp,if_pos c,if_neg e,if_pos z,if_neg (eqI_false.1 f1),if_neg (eqI_false.1 f2)];rfl⟩
def sNh(fp:Int→Vx)(pr:Int→Prop)(ov:Vx→Int→Vx×Vx)(po:Vx→Int→Prop)(tm:Vx→Vx→Int→Vx):List (FuncId×Spec):=[(44,fZero),(34,fInt),(85,gPoint),(86,specK [.i .i64] fun (w:Int)=>(some (pr w),vT (fp w))),(21,specK [.v,.v,.i .i64] fun (v:Vx) (u:Vx) (p:Int)=>(some (v.Sm 268435456∧u.Sm 268435456∧0≤p∧p≤1099511627776),vT (tm v u p))),(87,specK [.v,.i .i64] fun (v:Vx) (p:Int)=>(some (po v p),vvT (ov v p).1 (ov v p).2))]
theorem hNr_vc(r:Dx)(p:Int)(fp:Int→Vx)(pr:Int→Prop)(ov:Vx→Int→Vx×Vx)(po:Vx→Int→Prop)(tm:Vx→Vx→Int→Vx)(Q:Tv→Prop):execF ⟨tysT,sNh fp pr ov po tm⟩ (fun _=>none) 0 Tryz.f55 [.agg (dyL false r),.one (.int .i64 p)] Q=(br (Dx.zeroB r) (inR 1∧eB 4611686018427387904 (mkS 1 0)∧Q (Tv.tup [Sv.agg [At.bool false,At.words true [],At.int .i64 0,At.bool false,At.words true [],At.int .i64 0],Sv.agg (ivL true (pointV (mkS 1 0)))])) (inR (p+40)∧pr (p+40)∧eB 4611686018427387904 r∧inR (p+40)∧(Vx.Sm 268435456 (fp (p+40))∧Vx.Sm 268435456 (pointV r)∧(0:Int)≤p+40∧p+40≤1099511627776)∧true=true∧inR (p+24)∧po (tm (fp (p+40)) (pointV r) (p+40)) (p+24)∧Q (Tv.tup [Sv.agg (ivL false (ov (tm (fp (p+40)) (pointV r) (p+40)) (p+24)).fst),Sv.agg (ivL false (ov (tm (fp (p+40)) (pointV r) (p+40)) (p+24)).snd)]))):=by kernel_rfl
def sBu(tf:Dx→Int×Dx×Int)(nh:Dx→Int→Vx×Vx)(pn:Dx→Int→Prop):List (FuncId×Spec):=[(28,specK [.d] fun (x:Dx)=>(none,turT (tf x))),(55,specK [.d,.i .i64] fun (r:Dx) (p:Int)=>(some (pn r p),vvT (nh r p).1 (nh r p).2)),(24,gNeg)]
theorem hBu_vc(x:Dx)(p:Int)(tf:Dx→Int×Dx×Int)(nh:Dx→Int→Vx×Vx)(pn:Dx→Int→Prop)(Q:Tv→Prop):execF ⟨tysT,sBu tf nh pn⟩ (fun _=>none) 0 Tryz.f27 [.agg (dyL false x),.one (.int .i64 p)] Q=(br (ltI p 8) (Q (Tv.tup [Sv.agg [At.bool false,At.words true [],At.int .i64 0,At.bool false,At.words true [],At.int .i64 0],Sv.agg [At.bool false,At.words true [],At.int .i64 0,At.bool false,At.words true [],At.int .i64 0],Sv.one (At.int .i64 2)])) (br (ltI 2048 p) (Q (Tv.tup [Sv.agg [At.bool false,At.words true [],At.int .i64 0,At.bool false,At.words true [],At.int .i64 0],Sv.agg [At.bool false,At.words true [],At.int .i64 0,At.bool false,At.words true [],At.int .i64 0],Sv.one (At.int .i64 2)])) (br (neI (tf x).snd.snd 0) (Q (Tv.tup [Sv.agg [At.bool false,At.words true [],At.int .i64 0,At.bool false,At.words true [],At.int .i64 0],Sv.agg [At.bool false,At.words true [],At.int .i64 0,At.bool false,At.words true [],At.int .i64 0],Sv.one (At.int .i64 (tf x).snd.snd)])) (pn (tf x).snd.fst p∧br (eqI (tf x).fst 1) ((eB 4611686018427387904 (nh (tf x).snd.fst p).fst.lo∧eB 4611686018427387904 (nh (tf x).snd.fst p).fst.hi)∧true=true∧Q (Tv.tup [Sv.agg (ivL false (nh (tf x).snd.fst p).snd),Sv.agg (ivL true (turnV (nh (tf x).snd.fst p).fst)),Sv.one (At.int .i64 0)])) (br (eqI (tf x).fst 2) ((eB 4611686018427387904 (nh (tf x).snd.fst p).fst.lo∧eB 4611686018427387904 (nh (tf x).snd.fst p).fst.hi)∧(eB 4611686018427387904 (nh (tf x).snd.fst p).snd.lo∧eB 4611686018427387904 (nh (tf x).snd.fst p).snd.hi)∧true=true∧Q (Tv.tup [Sv.agg (ivL true (turnV (nh (tf x).snd.fst p).fst)),Sv.agg (ivL true (turnV (nh (tf x).snd.fst p).snd)),Sv.one (At.int .i64 0)])) (br (eqI (tf x).fst 3) ((eB 4611686018427387904 (nh (tf x).snd.fst p).snd.lo∧eB 4611686018427387904 (nh (tf x).snd.fst p).snd.hi)∧true=true∧Q (Tv.tup [Sv.agg (ivL true (turnV (nh (tf x).snd.fst p).snd)),Sv.agg (ivL false (nh (tf x).snd.fst p).fst),Sv.one (At.int .i64 0)])) (true=true∧Q (Tv.tup [Sv.agg (ivL false (nh (tf x).snd.fst p).fst),Sv.agg (ivL false (nh (tf x).snd.fst p).snd),Sv.one (At.int .i64 0)])))))))):=by kernel_rfl
def sEu(is:Int→Bool)(fi:Int→Bool)(fr:Int→Dx×Int)(bo:Dx→Int→(Vx×Vx)×Int)(dv:Vx→Vx→Int→Vx):List (FuncId×Spec):=[(13,wIs is),(42,specK [.i .u64] fun (x:Int)=>(some (Word x),bT (fi x))),(43,specK [.i .u64] fun (x:Int)=>(some (Word x),rdT (fr x))),(27,specK [.d,.i .i64] fun (x:Dx) (p:Int)=>(none,reT2 (bo x p))),(44,fZero),(45,specK [.v,.v,.i .i64] fun (v:Vx) (u:Vx) (p:Int)=>(some (v.Sm 16777216∧u.Sm 16777216∧u.lo.m≠0∧u.hi.m≠0∧1≤p∧p≤16777216),vF (dv v u p)))]
theorem hEu_vc(f x p:Int)(is:Int→Bool)(fi:Int→Bool)(fr:Int→Dx×Int)(bo:Dx→Int→(Vx×Vx)×Int)(dv:Vx→Vx→Int→Vx)(Q:Tv→Prop):execF ⟨tysT,sEu is fi fr bo dv⟩ (fun _=>none) 0 Tryz.f11 [.one (.int .u8 f),.one (.int .u64 x),.one (.int .i64 p)] Q=(br (!is f) (Q (Tv.tup [Sv.agg [At.bool false,At.words true [],At.int .i64 0,At.bool false,At.words true [],At.int .i64 0],Sv.one (At.int .i64 2)])) (br (ltI p 8) (Q (Tv.tup [Sv.agg [At.bool false,At.words true [],At.int .i64 0,At.bool false,At.words true [],At.int .i64 0],Sv.one (At.int .i64 2)])) (br (ltI 2048 p) (Q (Tv.tup [Sv.agg [At.bool false,At.words true [],At.int .i64 0,At.bool false,At.words true [],At.int .i64 0],Sv.one (At.int .i64 2)])) (Word x∧br (!fi x) (Q (Tv.tup [Sv.agg [At.bool false,At.words true [],At.int .i64 0,At.bool false,At.words true [],At.int .i64 0],Sv.one (At.int .i64 5)])) (Word x∧br (eqI f 16) (Q (Tv.tup [Sv.agg (ivL false (bo (fr x).fst p).fst.fst),Sv.one (At.int .i64 0)])) (br (eqI f 17) (Q (Tv.tup [Sv.agg (ivL false (bo (fr x).fst p).fst.snd),Sv.one (At.int .i64 0)])) (br (Dx.zeroB (bo (fr x).fst p).fst.snd.lo) (br (Dx.zeroB (bo (fr x).fst p).fst.snd.hi) (Q (Tv.tup [Sv.agg [At.bool false,At.words true [],At.int .i64 0,At.bool false,At.words true [],At.int .i64 0],Sv.one (At.int .i64 5)])) (inR (p+32)∧(Vx.Sm 16777216 (bo (fr x).fst p).fst.fst∧Vx.Sm 16777216 (bo (fr x).fst p).fst.snd∧Dx.m (bo (fr x).fst p).fst.snd.lo≠0∧Dx.m (bo (fr x).fst p).fst.snd.hi≠0∧(1:Int)≤p+32∧p+32≤16777216)∧Q (Tv.tup [Sv.agg (ivL false (dv (bo (fr x).fst p).fst.fst (bo (fr x).fst p).fst.snd (p+32))),Sv.one (At.int .i64 0)]))) (inR (p+32)∧(Vx.Sm 16777216 (bo (fr x).fst p).fst.fst∧Vx.Sm 16777216 (bo (fr x).fst p).fst.snd∧Dx.m (bo (fr x).fst p).fst.snd.lo≠0∧Dx.m (bo (fr x).fst p).fst.snd.hi≠0∧(1:Int)≤p+32∧p+32≤16777216)∧Q (Tv.tup [Sv.agg (ivL false (dv (bo (fr x).fst p).fst.fst (bo (fr x).fst p).fst.snd (p+32))),Sv.one (At.int .i64 0)]))))))))):=by kernel_rfl
theorem pow_ge2{w:Int}(w0:32≤w):80*w+320≤2^w.toNat:=by
  obtain ⟨k,hk⟩:∃ k:Nat,w=k+32:=⟨(w-32).toNat,by omega⟩
  have pb:=pow_big k
  rw [show w.toNat=k+32 by omega];omega
theorem refPi_bd2{w:Int}(w0:32≤w)(w1:w≤65536):(refPi w).Bd w 7:=by
  obtain ⟨a0,e0,e1,a1⟩:=piR_e w0 w1
  have g:=pow_ge2 w0
  have b1:=blen32 (a:=(piR w).a) (w:=w) (by omega) (by omega)
  have b2:=blen32 (a:=(piR w).a+(piR w).e) (w:=w) (by omega) (by omega)
  exact ⟨mkD_bd a0 (by omega) (by omega) (by omega) (by omega),mkD_bd (by omega) (by omega) (by omega) (by omega) (by omega)⟩
structure Lft (r:Dx):Prop where
  f:OneF r
  b:r.Bd 32768 8
  l:-(1/4)≤r.rv
  h:r.rv≤1/4
theorem tur_lft{x:Dx}(hx:0≤x.m)(h:(turR x).2.2=0):Lft (turR x).2.1∧0≤(turR x).1∧(turR x).1≤3:=by
  obtain ⟨f,l1,l2,k0,k1⟩:=tur_small hx h
  obtain ⟨_,_,h3,h4⟩:=tur_ok h
  refine ⟨⟨f,small_bd f (by rw [h4];exact h3) (by grind) (by grind),l1,l2⟩,k0,k1⟩
theorem sineH_sm{t:Dx}{p:Int}(ht:0≤t.m)(h:preS t p):(sineH t p).Sm 6291457:=by
  unfold sineH
  split
  · exact ⟨⟨by decide,by decide,by decide⟩,⟨by decide,by decide,by decide⟩⟩
  · obtain ⟨s,s1,p0,p1⟩:=h
    exact timesV_sm (N:=262144) (pointV_p t) (altR_iv (sqR_alt ht s1.1 s1.2 (f:=2) (by decide) (by decide) (by omega) (by omega))).p (pointV_sm ht s) (altR_sm ht s1 (by decide) (by decide) (by omega) (by omega)) (by omega)
theorem cosineH_sm{t:Dx}{p:Int}(ht:0≤t.m)(h:preS t p):(cosineH t p).Sm 6291457:=by
  obtain ⟨s,s1,p0,p1⟩:=h
  exact (altR_sm ht s1 (by decide) (by decide) (by omega) (by omega)).mono (by omega)
theorem over_sm{v:Vx}{p:Int}(hv:v.P)(h1:preS v.lo p)(h2:preS v.hi p):(sinesH v p).Sm 6291457∧(cosinesH v p).Sm 6291457:=by
  have a:=sineH_sm hv.1 h1
  have b:=sineH_sm hv.2 h2
  have c:=cosineH_sm hv.1 h1
  have d:=cosineH_sm hv.2 h2
  have o:(mkS 1 0).Sm 6291457:=(mkS_sm6 (n:=1) (by omega)).mono (by omega)
  have hh:(hullV (cosineH v.lo p) (cosineH v.hi p)).Sm 6291457:=by
    unfold hullV
    refine ⟨?_,?_⟩
    · show (if _ then _ else _:Dx).Sm _
      split
      · exact d.1
      · exact c.1
    · show (if _ then _ else _:Dx).Sm _
      split
      · exact d.2
      · exact c.2
  refine ⟨⟨a.1,b.2⟩,?_⟩
  unfold cosinesH
  split
  · exact ⟨hh.1,o⟩
  · exact hh
theorem angH_pre{r:Dx}(h:Lft r){p:Int}(p0:8≤p)(p1:p≤4096):(angH r p).P∧preS (angH r p).lo (p+24)∧preS (angH r p).hi (p+24)∧(refPi (p+40)).Sm 268435456∧(pointV r).Sm 268435456:=by
  obtain ⟨ok,_⟩:=angH_ok h.f.p h.l h.h (p:=p) (by omega) (by omega)
  have b1:=refPi_bd2 (w:=p+40) (by omega) (by omega)
  have b2:=h.b.point h.f.p
  have b:=Vx.Bd.times (p:=p+40) (refPi_iv (w:=p+40) (by omega) (by omega)).p (pointV_p r) (by omega) b1 b2
  have s:=b.sm (N:=131072) (by omega)
  exact ⟨ok.p,⟨s.1,ok.s1,by omega,by omega⟩,⟨s.2,ok.s2,by omega,by omega⟩,b1.sm (by omega),b2.sm (by omega)⟩
theorem nearH_sm{r:Dx}(h:Lft r){p:Int}(p0:8≤p)(p1:p≤4096):(nearH r p).1.Sm 6291457∧(nearH r p).2.Sm 6291457:=by
  unfold nearH
  split
  · exact ⟨⟨⟨by decide,by decide,by decide⟩,⟨by decide,by decide,by decide⟩⟩,(pointV_sm mkS_p (mkS_sm6 (n:=1) (by omega))).mono (by omega)⟩
  · obtain ⟨a,b,c,_⟩:=angH_pre h p0 p1
    exact over_sm a b c
def hNr0:Spec:=specK [.d,.i .i64] fun (r:Dx) (p:Int)=>(some (Lft r∧8≤p∧p≤4096),vvT (nearH r p).1 (nearH r p).2)
theorem sNh_ok:SpecsOk Tryz.prog (sNh refPi (fun w=>32≤w∧w≤65536) (fun v p=>(sinesH v p,cosinesH v p)) (fun v p=>preS v.lo p∧preS v.hi p) timesV):=⟨fZero_ok,fInt_ok,gPoint_ok,hPi_ok,gTimes_ok,hOver_ok,trivial⟩
theorem hNr0_ok:SpecOk Tryz.prog 55 hNr0 :=
  specKW_ok (envOk tysT_ok sNh_ok) mixed Tryz.func55 rfl (by decide) (by decide) fun (r:Dx) _ (p:Int) _ hp=>⟨fun _=>none,0,by
    obtain ⟨hl,p0,p1⟩:Lft r∧8≤p∧p≤4096:=hp
    show execF _ _ _ _ _ (fun t=>t=vvT (nearH r p).1 (nearH r p).2∨fgT t=vvT (nearH r p).1 (nearH r p).2)
    obtain ⟨a,b,c,s1,s2⟩:=angH_pre hl p0 p1
    refine (hNr_vc r p refPi _ (fun v p=>(sinesH v p,cosinesH v p)) _ timesV _).mpr (br_intro (fun h=>⟨⟨by omega,by omega⟩,one_eB,.inr ?_⟩) fun h=>⟨⟨by omega,by omega⟩,⟨by omega,by omega⟩,(hl.b.sm (N:=32776) (by omega)).eB (by omega),⟨by omega,by omega⟩,⟨s1,s2,by omega,by omega⟩,rfl,⟨by omega,by omega⟩,⟨b,c⟩,.inl ?_⟩)
    · rw [nearH,if_pos h];rfl
    · rw [nearH,if_neg (by rw [h];simp)];rfl⟩
def hBu:Spec:=specK [.d,.i .i64] fun (x:Dx) (p:Int)=>(none,reT2 (bothU x p))
theorem sBu_ok:SpecsOk Tryz.prog (sBu turR nearH (fun r p=>Lft r∧8≤p∧p≤4096)):=⟨hTurns_ok,hNr0_ok,gNeg_ok,trivial⟩
theorem hBu_ok:SpecOk Tryz.prog 27 hBu :=
  specKW_ok (envOk tysT_ok sBu_ok) mixed Tryz.func27 rfl (by decide) (by decide) fun (x:Dx) hw (p:Int) _ hp=>⟨fun _=>none,0,by
    have hx:=Dx.Wf.m0 hw
    show execF _ _ _ _ _ (fun t=>t=reT2 (bothU x p)∨fgT t=reT2 (bothU x p))
    refine (hBu_vc x p turR nearH _ _).mpr (br_intro (fun h=>.inr ?_) fun h=>br_intro (fun h'=>.inr ?_) fun h'=>br_intro (fun h''=>.inr ?_) fun h''=>?_)
    · have:=ltI_true.1 h
      rw [bothU,if_neg (by omega)];rfl
    · have:=ltI_true.1 h'
      rw [bothU,if_neg (by omega)];rfl
    · have a:=ltI_false.1 h
      have b:=ltI_false.1 h'
      rw [bothU,if_pos ⟨by omega,by omega⟩,if_neg (neI_true.1 h'')];rfl
    have a:=ltI_false.1 h
    have b:=ltI_false.1 h'
    have h0:=neI_false.1 h''
    obtain ⟨lf,k0,k1⟩:=tur_lft hx h0
    obtain ⟨s1,s2⟩:=nearH_sm lf (p:=p) (by omega) (by omega)
    have e1:eB 4611686018427387904 (nearH (turR x).2.1 p).1.lo∧eB 4611686018427387904 (nearH (turR x).2.1 p).1.hi:=⟨s1.1.eB (by omega),s1.2.eB (by omega)⟩
    have e2:eB 4611686018427387904 (nearH (turR x).2.1 p).2.lo∧eB 4611686018427387904 (nearH (turR x).2.1 p).2.hi:=⟨s2.1.eB (by omega),s2.2.eB (by omega)⟩
    have eq:bothU x p=(turnP (turR x).1 (nearH (turR x).2.1 p),0):=by rw [bothU,if_pos ⟨by omega,by omega⟩,if_pos h0]
    rw [eq]
    refine ⟨⟨lf,by omega,by omega⟩,br_intro (fun z=>⟨e1,rfl,.inr ?_⟩) fun z1=>br_intro (fun z=>⟨e1,e2,rfl,.inr ?_⟩) fun z2=>br_intro (fun z=>⟨e2,rfl,.inr ?_⟩) fun z3=>⟨rfl,.inl ?_⟩⟩
    · rw [turnP,if_pos (eqI_true.1 z)];rfl
    · rw [turnP,if_neg (eqI_false.1 z1),if_pos (eqI_true.1 z)];rfl
    · rw [turnP,if_neg (eqI_false.1 z1),if_neg (eqI_false.1 z2),if_pos (eqI_true.1 z)];rfl
    · rw [turnP,if_neg (eqI_false.1 z1),if_neg (eqI_false.1 z2),if_neg (eqI_false.1 z3)];rfl⟩
theorem zero_sm{N:Nat}:zeroIv.Sm N:=⟨⟨by show (0:Nat)≤N;omega,by show -(N:Int)≤0;omega,by show (0:Int)≤N;omega⟩,⟨by show (0:Nat)≤N;omega,by show -(N:Int)≤0;omega,by show (0:Int)≤N;omega⟩⟩
theorem zero_P:zeroIv.P:=⟨Int.le_refl _,Int.le_refl _⟩
theorem nearH_P{r:Dx}(h:Lft r){p:Int}(p0:8≤p)(p1:p≤4096):((nearH r p).1.P∧(nearH r p).2.P)∧(nearH r p).1.lo.rv≤(nearH r p).1.hi.rv∧(nearH r p).2.lo.rv≤(nearH r p).2.hi.rv:=by
  unfold nearH
  split
  · exact ⟨⟨zero_P,⟨oneD_p,oneD_p⟩⟩,Rat.le_refl,Rat.le_refl⟩
  · obtain ⟨a,b,c,_⟩:=angH_pre h p0 p1
    have pi:=refPi_iv (w:=p+40) (by omega) (by omega)
    obtain ⟨_,i⟩:=angH_ok h.f.p h.l h.h (p:=p) (by omega) (by omega)
    obtain ⟨i1,i2⟩:=i (refPi (p+40)).lo.rv ⟨Rat.le_refl,pi.le⟩
    have s:=sinesH_enc a b.2.1 c.2.1 (p:=p+24) (by omega) (by omega)
    have k:=cosinesH_enc a b.2.1 c.2.1 (p:=p+24) (by omega) (by omega)
    exact ⟨⟨s.1,k.1⟩,(s.2 _ i1 i2).self,(k.2 _ i1 i2).self⟩
theorem turnV_sm{v:Vx}{N:Nat}(hv:v.P)(h:v.Sm N):(turnV v).Sm (N+N):=⟨negD_sm h.2 hv.2,negD_sm h.1 hv.1⟩
theorem turnV_P(v:Vx):(turnV v).P:=⟨negD_p,negD_p⟩
structure WOk (v:Vx):Prop where
  p:v.P
  s:v.Sm 16777216
  o:v=zeroIv∨Off0 v
  l:v.lo.rv≤v.hi.rv
theorem WOk.turn{v:Vx}(hp:v.P)(hs:v.Sm 6291457)(o:v=zeroIv∨Off0 v)(l:v.lo.rv≤v.hi.rv):WOk (turnV v):=⟨turnV_P v,(turnV_sm hp hs).mono (by omega),by
  rcases o with o | o
  · exact .inl (by rw [o,turn_zero])
  · exact .inr (o.turn hp),by rw [(turn_rv hp).1,(turn_rv hp).2];grind⟩
theorem bothU_ok{x:Dx}(hx:0≤x.m){p:Int}(p0:8≤p)(p1:p≤2048):WOk (bothU x p).1.1∧WOk (bothU x p).1.2:=by
  have z:WOk zeroIv:=⟨zero_P,zero_sm,.inl rfl,Rat.le_refl⟩
  rw [bothU,if_pos ⟨p0,p1⟩]
  by_cases h:(turR x).2.2=0
  · rw [if_pos h]
    obtain ⟨lf,k0,k1⟩:=tur_lft hx h
    obtain ⟨s1,s2⟩:=nearH_sm lf (p:=p) p0 (by omega)
    obtain ⟨⟨q1,q2⟩,e1,e2⟩:=nearH_P lf (p:=p) p0 (by omega)
    obtain ⟨o1,o2,o3⟩:=nearH_off lf.f.p lf.l lf.h (p:=p) p0 (by omega)
    have o4:(nearH (turR x).2.1 p).1=zeroIv∨Off0 (nearH (turR x).2.1 p).1:=by
      by_cases c:(turR x).2.1.rv=0
      · exact .inl (o3 c)
      · exact .inr (o2 c)
    have a:WOk (nearH (turR x).2.1 p).1:=⟨q1,s1.mono (by omega),o4,e1⟩
    have b:WOk (nearH (turR x).2.1 p).2:=⟨q2,s2.mono (by omega),.inr o1,e2⟩
    have c:=WOk.turn q1 s1 o4 e1
    have d:=WOk.turn q2 s2 (.inr o1) e2
    unfold turnP
    split
    · exact ⟨b,c⟩
    split
    · exact ⟨c,d⟩
    split
    · exact ⟨d,a⟩
    · exact ⟨a,b⟩
  · rw [if_neg h];exact ⟨z,z⟩
def encU(f x p:Int):Vx×Int :=
  if isPi f=true∧8≤p∧p≤2048 then
    if fexp x=2047 then (zeroIv,5) else
    if f=16 then ((bothU (fltD x) p).1.1,0) else
    if f=17 then ((bothU (fltD x) p).1.2,0) else
    if ((bothU (fltD x) p).1.2.lo.zeroB && (bothU (fltD x) p).1.2.hi.zeroB)=true then (zeroIv,5) else (divV (bothU (fltD x) p).1.1 (bothU (fltD x) p).1.2 (p+32),0)
  else (zeroIv,2)
def hEu:Spec:=specK [.i .u8,.i .u64,.i .i64] fun (f x p:Int)=>(some (Word x),reT (encU f x p))
theorem sEu_ok:SpecsOk Tryz.prog (sEu isPi finB fromR bothU divV):=⟨hIs_ok,oFin_ok,fFrom_ok,hBu_ok,fZero_ok,gDiv_ok,trivial⟩
theorem off_m{v:Vx}(h:WOk v)(o:Off0 v):v.lo.m≠0∧v.hi.m≠0:=by
  have l:=h.l
  rcases o with o | o
  · exact ⟨rv_ne (by grind),rv_ne (by grind)⟩
  · exact ⟨rv_ne (by grind),rv_ne (by grind)⟩
theorem hEu_ok:SpecOk Tryz.prog 11 hEu :=
  specKW_ok (envOk tysT_ok sEu_ok) mixed Tryz.func11 rfl (by decide) (by decide) fun (f:Int) _ (x:Int) _ (p:Int) _ hp=>⟨fun _=>none,0,by
    have hw:Word x:=hp
    show execF _ _ _ _ _ (fun t=>t=reT (encU f x p)∨fgT t=reT (encU f x p))
    refine (hEu_vc f x p isPi finB fromR bothU divV _).mpr (br_intro (fun h=>.inr ?_) fun h=>br_intro (fun h'=>.inr ?_) fun h'=>br_intro (fun h''=>.inr ?_) fun h''=>⟨hw,br_intro (fun k=>.inr ?_) fun k=>?_⟩)
    · rw [encU,if_neg (by rw [not_true h];simp)];rfl
    · have:=ltI_true.1 h'
      rw [encU,if_neg (by omega)];rfl
    · have:=ltI_true.1 h''
      rw [encU,if_neg (by omega)];rfl
    · have c:isPi f=true∧8≤p∧p≤2048:=⟨not_false' h,by have:=ltI_false.1 h';omega,by have:=ltI_false.1 h'';omega⟩
      have k:finB x=false:=not_true k
      unfold finB at k
      rw [encU,if_pos c,if_pos (eqI_true.1 (not_false' k))];rfl
    have c:isPi f=true∧8≤p∧p≤2048:=⟨not_false' h,by have:=ltI_false.1 h';omega,by have:=ltI_false.1 h'';omega⟩
    have k:finB x=true:=not_false' k
    unfold finB at k
    have e:¬ fexp x=2047:=eqI_false.1 (not_true k)
    have ef:fromR x=(fltD x,0):=by rw [fromR,if_neg e]
    rw [ef]
    obtain ⟨a,b⟩:=bothU_ok (fltD_p x) c.2.1 c.2.2
    have dv:Off0 (bothU (fltD x) p).1.2→(bothU (fltD x) p).1.2.lo.m≠0∧(bothU (fltD x) p).1.2.hi.m≠0:=fun o=>off_m b o
    refine ⟨hw,br_intro (fun z=>.inl ?_) fun z1=>br_intro (fun z=>.inl ?_) fun z2=>br_intro (fun z3=>br_intro (fun z4=>.inr ?_) fun z4=>?_) fun z3=>?_⟩
    · rw [encU,if_pos c,if_neg e,if_pos (eqI_true.1 z)];rfl
    · rw [encU,if_pos c,if_neg e,if_neg (eqI_false.1 z1),if_pos (eqI_true.1 z)];rfl
    · rw [encU,if_pos c,if_neg e,if_neg (eqI_false.1 z1),if_neg (eqI_false.1 z2),if_pos (by rw [z3,z4];rfl)];rfl
    · exfalso
      rcases b.o with o | o
      · rw [o] at z4;cases z4
      · exact (dv o).1 (zeroB_true.1 z3)
    · rcases b.o with o | o
      · rw [o] at z3;cases z3
      · refine ⟨⟨by omega,by omega⟩,⟨a.s,b.s,(dv o).1,(dv o).2,by omega,by omega⟩,.inl ?_⟩
        rw [encU,if_pos c,if_neg e,if_neg (eqI_false.1 z1),if_neg (eqI_false.1 z2),if_neg (by rw [z3];simp)];rfl⟩
def Ab(x K:Rat):Prop:=-K≤x∧x≤K
theorem sqN(z:Rat):0≤z*z:=by
  rcases (show 0≤z∨0≤-z by grind) with q | q
  · exact rmN q q
  · have:=rmN q q;grind
theorem Ab.mono{x K L:Rat}(h:Ab x K)(k:K≤L):Ab x L:=⟨by have:=h.1;grind,by have:=h.2;grind⟩
theorem Ab.nonneg{x K:Rat}(h:Ab x K):0≤K:=by have:=h.1;have:=h.2;grind
theorem Ab.add{x y K L:Rat}(h:Ab x K)(k:Ab y L):Ab (x+y) (K+L):=by
  obtain ⟨a,b⟩:=h;obtain ⟨c,d⟩:=k;exact ⟨by grind,by grind⟩
theorem Ab.neg{x K:Rat}(h:Ab x K):Ab (-x) K:=by obtain ⟨a,b⟩:=h;exact ⟨by grind,by grind⟩
theorem Ab.sub{x y K L:Rat}(h:Ab x K)(k:Ab y L):Ab (x-y) (K+L):=by
  obtain ⟨a,b⟩:=h;obtain ⟨c,d⟩:=k;exact ⟨by grind,by grind⟩
theorem Ab.mul{x y K L:Rat}(h:Ab x K)(k:Ab y L):Ab (x*y) (K*L):=by
  have n:=h.nonneg
  obtain ⟨a,b⟩:=h;obtain ⟨c,d⟩:=k
  have r1:=rmN (show 0≤K-x by grind) (show 0≤L-y by grind)
  have r2:=rmN (show 0≤K+x by grind) (show 0≤L+y by grind)
  have r3:=rmN (show 0≤K-x by grind) (show 0≤L+y by grind)
  have r4:=rmN (show 0≤K+x by grind) (show 0≤L-y by grind)
  exact ⟨by grind,by grind⟩
theorem Ab.zero{K:Rat}(h:0≤K):Ab 0 K:=⟨by grind,h⟩
theorem Ab.of_mul{c z K:Rat}(hc:0<c)(h:Ab (c*z) (c*K)):Ab z K:=by
  obtain ⟨a,b⟩:=h
  refine ⟨Rat.not_lt.1 fun k=>?_,Rat.not_lt.1 fun k=>?_⟩
  · have:=Rat.mul_pos hc (show 0 < -K-z by grind);grind
  · have:=Rat.mul_pos hc (show 0<z-K by grind);grind
theorem Ab.alt{x K:Rat}(h:Ab x K)(i:Nat):Ab (alt i*x) K:=by
  rcases alt_one i with e | e<;>rw [e]
  · rw [Rat.one_mul];exact h
  · have:=h.neg;rwa [show -1*x = -x by grind]
theorem Ab.congr{x y K:Rat}(h:Ab x K)(e:y=x):Ab y K:=e ▸ h
theorem Ab.sq{x K:Rat}(h:Ab x K):x*x≤K*K:=(h.mul h).2
theorem sum_ab{B:Rat}{b:Nat→Rat}(h:∀ i,Ab (b i) (B*hf i))(n:Nat):Ab (sumTo b n) (2*B):=by
  have:=Dec.tail_le (B:=B) (b:=b) h (Nat.zero_le n)
  rw [hf_zero] at this
  have e:sumTo b 0=0:=rfl
  rw [e] at this
  exact ⟨by grind,by grind⟩
theorem nat_pos2(j:Nat):(0:Rat)<((j+2:Nat):Rat):=nat_pos (j+1)
theorem cast_add2(j:Nat):((j+2:Nat):Rat)=(j:Rat)+2:=by
  have:=Rat.natCast_add j 2
  exact this
theorem cast_nonneg(j:Nat):(0:Rat)≤(j:Rat):=by exact_mod_cast Nat.zero_le j
theorem hf_nonneg(k:Nat):0≤hf k:=rlL (hf_pos k)
theorem dpw_ab{t:Rat}(h:Ab t 1):∀ k,Ab (dpw t k) (2*hf k)
  | 0=>by rw [hf_zero];exact ⟨by show _≤(1:Rat);grind,by show (1:Rat)≤_;grind⟩
  | 1=>by
    have e:dpw t 1=t:=by
      have h:=dpw_succ t 0
      have e:((0+1:Nat):Rat)=1:=rfl
      rw [e] at h
      have:dpw t 0=1:=rfl
      rw [this] at h
      have h2:dpw t (0+1)=dpw t 1:=rfl
      grind
    rw [e,hf_one];exact h
  | k+2=>by
    have ih:=dpw_ab h (k+1)
    have s:=dpw_succ t (k+1)
    refine Ab.of_mul (nat_pos2 k) ?_
    have m:=h.mul ih
    rw [Rat.one_mul,←s] at m
    refine m.mono ?_
    have e:=hf_succ (k+1)
    have c:=cast_add2 k
    have p:=rmN (cast_nonneg k) (hf_nonneg (k+1+1))
    show 2*hf (k+1)≤((k+2:Nat):Rat)*(2*hf (k+1+1))
    rw [c];grind
def dE(a d:Rat)(j:Nat):Rat:=dpw (a+d) (j+1)-dpw a (j+1)-d*dpw a j
theorem dE_succ(a d:Rat)(j:Nat):((j+2:Nat):Rat)*dE a d (j+1)=d*d*dpw a j+(a+d)*dE a d j:=by
  have s1:=dpw_succ (a+d) (j+1)
  have s2:=dpw_succ a (j+1)
  have s3:=dpw_succ a j
  have c2:=cast_add2 j
  have c1:((j+1:Nat):Rat)=(j:Rat)+1:=Rat.natCast_add j 1
  have c3:((j+1+1:Nat):Rat)=(j:Rat)+2:=c2
  rw [c3] at s1 s2
  rw [c1] at s3
  rw [c2]
  unfold dE
  generalize dpw (a+d) (j+1+1)=X at *
  generalize dpw a (j+1+1)=Y at *
  generalize dpw (a+d) (j+1)=Z at *
  generalize dpw a (j+1)=U at *
  generalize dpw a j=V at *
  grind
theorem dE_ab{a d:Rat}(ha:Ab a 1)(hd:Ab (a+d) 1):∀ j,Ab (dE a d j) (4*(d*d)*hf j)
  | 0=>by
    have e:∀ t:Rat,dpw t 1=t:=fun t=>by
      have h:=dpw_succ t 0
      have e:((0+1:Nat):Rat)=1:=rfl
      rw [e] at h
      have:dpw t 0=1:=rfl
      rw [this] at h
      have h2:dpw t (0+1)=dpw t 1:=rfl
      grind
    have z:dE a d 0=0:=by
      show dpw (a+d) 1-dpw a 1-d*1=0
      rw [e,e];grind
    rw [z,hf_zero]
    have:=sqN d
    exact Ab.zero (by grind)
  | j+1=>by
    have ih:=dE_ab ha hd j
    have s:=dE_succ a d j
    refine Ab.of_mul (nat_pos2 j) ?_
    rw [s]
    have q:=sqN d
    have dd:Ab (d*d) (d*d):=⟨by grind,by grind⟩
    have m1:=dd.mul (dpw_ab ha j)
    have m2:=hd.mul ih
    have e:=hf_succ j
    have c:=cast_add2 j
    cases j with
    | zero =>
      have z:dE a d 0=0:=by
        have:=ih
        have e:∀ t:Rat,dpw t 1=t:=fun t=>by
          have h:=dpw_succ t 0
          have e:((0+1:Nat):Rat)=1:=rfl
          rw [e] at h
          have:dpw t 0=1:=rfl
          rw [this] at h
          have h2:dpw t (0+1)=dpw t 1:=rfl
          grind
        show dpw (a+d) 1-dpw a 1-d*1=0
        rw [e,e];grind
      rw [z]
      rw [hf_zero] at m1
      have z2:(a+d)*0=0:=Rat.mul_zero _
      rw [z2]
      refine (m1.add (Ab.zero (K:=0) Rat.le_refl)).mono ?_
      have p:=rmN q (hf_nonneg 1)
      have h1:=hf_one
      show d*d*(2*1)+0≤((0+2:Nat):Rat)*(4*(d*d)*hf (0+1))
      have c0:((0+2:Nat):Rat)=2:=rfl
      rw [c0]
      have e2:2*(4*(d*d)*hf (0+1))=4*(d*d)*(2*hf 1):=by grind
      rw [e2,h1];grind
    | succ i =>
      refine (m1.add m2).mono ?_
      rw [c]
      have p:=rmN q (hf_nonneg (i+1+1))
      have p2:=rmN (cast_nonneg i) p
      have c1:((i+1:Nat):Rat)=(i:Rat)+1:=Rat.natCast_add i 1
      rw [c1,e]
      grind
theorem hf_mono2(i:Nat):hf (2*i)≤hf i:=hf_le (by omega)
theorem hf_mono3(i:Nat):hf (2*i+1)≤hf i:=hf_le (by omega)
theorem sq_bd{d:Rat}{i j:Nat}(h:i≤j):4*(d*d)*hf j≤4*(d*d)*hf i:=by
  have:=rmL (hf_le h) (sqN d);grind
theorem sin_step{a d:Rat}(ha:Ab a 1)(hd:Ab (a+d) 1)(n:Nat):Ab (sinS (a+d) n-sinS a n-d*cosS a n) (8*(d*d)):=by
  have e:sinS (a+d) n-sinS a n-d*cosS a n=sumTo (fun i=>alt i*dE a d (2*i)) n:=by
    induction n with
    | zero=>show (0:Rat)-0-d*0=0;grind
    | succ n ih =>
      show (sinS (a+d) n+sinT (a+d) n)-(sinS a n+sinT a n)-d*(cosS a n+cosT a n)=sumTo _ n+_
      rw [←ih];unfold sinT cosT dE;grind
  rw [e]
  exact (sum_ab (B:=4*(d*d)) (fun i=>((dE_ab ha hd (2*i)).alt i).mono (sq_bd (by omega))) n).mono (by grind)
theorem cos_step{a d:Rat}(ha:Ab a 1)(hd:Ab (a+d) 1)(n:Nat):Ab (cosS (a+d) n-cosS a n+d*sinS a n) (8*(d*d)+4*hf n):=by
  have e:∀ n,cosS (a+d) (n+1)-cosS a (n+1)+d*sinS a n=sumTo (fun i=>-1*(alt i*dE a d (2*i+1))) n:=by
    intro n
    induction n with
    | zero=>show ((0:Rat)+1*1)-(0+1*1)+d*0=0;grind
    | succ n ih =>
      show (cosS (a+d) (n+1)+cosT (a+d) (n+1))-(cosS a (n+1)+cosT a (n+1))+d*(sinS a n+sinT a n)=sumTo _ n+_
      rw [←ih];unfold sinT cosT dE;rw [alt_succ,show 2*(n+1)=2*n+1+1 by omega];grind
  have b:=sum_ab (B:=4*(d*d)) (b:=fun i=>-1*(alt i*dE a d (2*i+1))) (fun i=>by
    have:=(((dE_ab ha hd (2*i+1)).alt i).mono (sq_bd (d:=d) (show i≤2*i+1 by omega))).neg
    exact this.congr (by grind)) n
  rw [←e] at b
  have t1:=(dpw_ab hd (2*n)).alt n
  have t2:=(dpw_ab ha (2*n)).alt n
  have h:=hf_mono2 n
  have u1:cosS (a+d) (n+1)=cosS (a+d) n+alt n*dpw (a+d) (2*n):=rfl
  have u2:cosS a (n+1)=cosS a n+alt n*dpw a (2*n):=rfl
  rw [u1,u2] at b
  refine ((b.sub (t1.sub t2)).congr (by grind)).mono (by grind)
theorem sin_ab{a:Rat}(ha:Ab a 1)(n:Nat):Ab (sinS a n) 4 :=
  (sum_ab (B:=2) (fun i=>((dpw_ab ha (2*i+1)).alt i).mono (by have:=hf_mono3 i;grind)) n).mono (by grind)
theorem cos_ab{a:Rat}(ha:Ab a 1)(n:Nat):Ab (cosS a n) 4 :=
  (sum_ab (B:=2) (fun i=>((dpw_ab ha (2*i)).alt i).mono (by have:=hf_mono2 i;grind)) n).mono (by grind)
def pw(x:Rat):Nat→Rat
  | 0=>1
  | k+1=>x*pw x k
def qw(x:Rat)(j:Nat):Rat:=pw x (j+1)*((j+1:Nat):Rat)⁻¹
theorem qw_mul(x:Rat)(j:Nat):((j+1:Nat):Rat)*qw x j=pw x (j+1):=by
  unfold qw
  have:=Rat.mul_inv_cancel ((j+1:Nat):Rat) (fun h=>by have:=nat_pos j;grind)
  grind
theorem pw_ab{x:Rat}(h:Ab x (1/4)):∀ k,Ab (pw x k) (hf (2*k))
  | 0=>by show Ab 1 (hf 0);rw [hf_zero];exact ⟨by grind,by grind⟩
  | k+1=>by
    have m:=h.mul (pw_ab h k)
    refine m.mono ?_
    have e1:=hf_succ (2*k)
    have e2:=hf_succ (2*k+1)
    rw [show 2*(k+1)=2*k+1+1 by omega];grind
def qE(x d:Rat)(j:Nat):Rat:=qw (x+d) j-qw x j-d*pw x j
theorem pw_step(x d:Rat):∀ j:Nat,pw (x+d) (j+1)-pw x (j+1)-((j+1:Nat):Rat)*(d*pw x j)=((j+1:Nat):Rat)*qE x d j:=fun j=>by
  have s1:=qw_mul (x+d) j
  have s2:=qw_mul x j
  unfold qE
  rw [←s1,←s2];grind
theorem qE_succ(x d:Rat)(j:Nat):((j+2:Nat):Rat)*qE x d (j+1)=((j+1:Nat):Rat)*((x+d)*qE x d j+d*d*pw x j):=by
  have s1:=pw_step x d (j+1)
  have s0:=pw_step x d j
  have c2:=cast_add2 j
  have c1:((j+1:Nat):Rat)=(j:Rat)+1:=Rat.natCast_add j 1
  have c3:((j+1+1:Nat):Rat)=(j:Rat)+2:=c2
  rw [c3] at s1
  rw [c1] at s0 ⊢
  rw [c2,←s1]
  have e1:pw (x+d) (j+1+1)=(x+d)*pw (x+d) (j+1):=rfl
  have e2:pw x (j+1+1)=x*pw x (j+1):=rfl
  have e3:pw x (j+1)=x*pw x j:=rfl
  rw [e1,e2]
  rw [e3] at s0 ⊢
  generalize pw (x+d) (j+1)=Z at *
  generalize pw x j=V at *
  have:Z=x*V+((j:Rat)+1)*(d*V)+((j:Rat)+1)*qE x d j:=by grind
  rw [this];grind
theorem qE_ab{x d:Rat}(hx:Ab x (1/4))(hd:Ab (x+d) (1/4)):∀ j,Ab (qE x d j) (4*(d*d)*hf j)
  | 0=>by
    have e:∀ t:Rat,qw t 0=t:=fun t=>by
      have h:=qw_mul t 0
      have e:((0+1:Nat):Rat)=1:=rfl
      have e2:pw t (0+1)=t*1:=rfl
      rw [e,e2] at h;grind
    have z:qE x d 0=0:=by
      show qw (x+d) 0-qw x 0-d*1=0
      rw [e,e];grind
    rw [z,hf_zero]
    have:=sqN d
    exact Ab.zero (by grind)
  | j+1=>by
    have ih:=qE_ab hx hd j
    refine Ab.of_mul (nat_pos2 j) ?_
    rw [qE_succ]
    have q:=sqN d
    have dd:Ab (d*d) (d*d):=⟨by grind,by grind⟩
    have m1:=dd.mul ((pw_ab hx j).mono (hf_mono2 j))
    have m2:=hd.mul ih
    have e:=hf_succ j
    have p:=rmN q (hf_nonneg j)
    have c1:Ab ((j+1:Nat):Rat) ((j+2:Nat):Rat):=by
      have:=cast_add2 j
      have:=cast_nonneg j
      have c1:((j+1:Nat):Rat)=(j:Rat)+1:=Rat.natCast_add j 1
      exact ⟨by grind,by grind⟩
    have key:1/4*(4*(d*d)*hf j)+d*d*hf j≤4*(d*d)*hf (j+1):=by rw [e];grind
    exact c1.mul ((m2.add m1).mono key)
def atS(x:Rat)(n:Nat):Rat:=sumTo (fun k=>alt k*qw x (2*k)) n
def gS(x:Rat)(n:Nat):Rat:=sumTo (fun k=>alt k*pw x (2*k)) n
theorem at_step{x d:Rat}(hx:Ab x (1/4))(hd:Ab (x+d) (1/4))(n:Nat):Ab (atS (x+d) n-atS x n-d*gS x n) (8*(d*d)):=by
  have e:atS (x+d) n-atS x n-d*gS x n=sumTo (fun i=>alt i*qE x d (2*i)) n:=by
    induction n with
    | zero=>show (0:Rat)-0-d*0=0;grind
    | succ n ih =>
      show (atS (x+d) n+alt n*qw (x+d) (2*n))-(atS x n+alt n*qw x (2*n))-d*(gS x n+alt n*pw x (2*n))=sumTo _ n+_
      rw [←ih];unfold qE;grind
  rw [e]
  exact (sum_ab (B:=4*(d*d)) (fun i=>((qE_ab hx hd (2*i)).alt i).mono (sq_bd (by omega))) n).mono (by grind)
theorem gS_eq(x:Rat)(n:Nat):gS x n+x*x*gS x n=1-alt n*pw x (2*n):=by
  induction n with
  | zero=>show (0:Rat)+x*x*0=1-1*1;grind
  | succ n ih =>
    show (gS x n+alt n*pw x (2*n))+x*x*(gS x n+alt n*pw x (2*n))=_
    have e:pw x (2*(n+1))=x*(x*pw x (2*n)):=rfl
    rw [alt_succ,e];grind
theorem gS_ab{x:Rat}(hx:Ab x (1/4))(n:Nat):Ab (gS x n) 2 :=
  (sum_ab (B:=1) (fun i=>((pw_ab hx (2*i)).alt i).mono (by have:=hf_le (show i≤2*(2*i) by omega);grind)) n).mono (by grind)
theorem qw_ab{x:Rat}(hx:Ab x (1/4))(j:Nat):Ab (qw x j) (hf (2*(j+1))):=by
  refine Ab.of_mul (nat_pos j) ?_
  rw [qw_mul]
  refine (pw_ab hx (j+1)).mono ?_
  have c1:((j+1:Nat):Rat)=(j:Rat)+1:=Rat.natCast_add j 1
  have:=rmN (cast_nonneg j) (hf_nonneg (2*(j+1)))
  rw [c1];grind
theorem atS_ab{x:Rat}(hx:Ab x (1/4))(n:Nat):Ab (atS x n) (1/2) :=
  (sum_ab (B:=1/4) (fun i=>((qw_ab hx (2*i)).alt i).mono (by
    have e1:=hf_add 2 (4*i)
    have e2:hf 2=1/4:=by have a:=hf_succ 0;have b:=hf_succ 1;rw [hf_zero] at a;grind
    have l:=hf_le (show i≤4*i by omega)
    rw [show 2*(2*i+1)=2+4*i by omega,e1,e2];grind)) n).mono (by grind)
def vS(x:Rat)(n:Nat):Rat:=sinS (atS x n) n-x*cosS (atS x n) n
theorem vS_step{x d:Rat}(hx:Ab x (1/4))(hd:Ab (x+d) (1/4))(d0:0≤d)(d1:d≤1/4)(n:Nat):Ab (vS (x+d) n-vS x n*(1+d*(x*gS x n))) (400*(d*d)+8*hf n):=by
  have A:=atS_ab hx n
  have A':=atS_ab hd n
  have st:=at_step hx hd n
  have g:=gS_ab hx n
  have dn:Ab d d:=⟨by grind,by grind⟩
  have q:=rmN d0 d0
  have q4:=rmL d1 d0
  have h0:=hf_nonneg n
  have dl:Ab (atS (x+d) n-atS x n) (4*d):=((st.add (dn.mul g)).congr (by grind)).mono (by grind)
  have dq:=dl.sq
  have s1:=sin_step (A.mono (show (1:Rat)/2≤1 by decide +kernel)) (d:=atS (x+d) n-atS x n) (by rw [show atS x n+(atS (x+d) n-atS x n)=atS (x+d) n by grind];exact A'.mono (by decide +kernel)) n
  have c1:=cos_step (A.mono (show (1:Rat)/2≤1 by decide +kernel)) (d:=atS (x+d) n-atS x n) (by rw [show atS x n+(atS (x+d) n-atS x n)=atS (x+d) n by grind];exact A'.mono (by decide +kernel)) n
  rw [show atS x n+(atS (x+d) n-atS x n)=atS (x+d) n by grind] at s1 c1
  have bs:=sin_ab (A.mono (show (1:Rat)/2≤1 by decide +kernel)) n
  have bc:=cos_ab (A.mono (show (1:Rat)/2≤1 by decide +kernel)) n
  have e4:=gS_eq x n
  have b4:=((pw_ab hx (2*n)).alt n).mono (hf_le (show n≤2*(2*n) by omega))
  unfold vS
  generalize sinS (atS (x+d) n) n=s' at *
  generalize cosS (atS (x+d) n) n=c' at *
  generalize sinS (atS x n) n=s at *
  generalize cosS (atS x n) n=c at *
  generalize atS (x+d) n-atS x n=δ at *
  generalize gS x n=G at *
  generalize alt n*pw x (2*n)=r at *
  generalize hf n=H at *
  have k1:=(dn.mul bc).mul b4
  have k2:=st.mul (bc.add (hx.mul bs))
  have k3:=(dn.mul dl).mul bs
  have k4:=s1
  have k5:=hd.mul c1
  have t:=(((k2.sub k1).add k3).add k4).sub k5
  have dH:=rmR d1 h0
  refine (t.congr ?_).mono ?_
  · have e5:c=(G+x*x*G)*c+r*c:=by rw [e4];grind
    have e6:d*c=d*((G+x*x*G)*c+r*c):=by rw [←e5]
    grind
  · grind
theorem vS_zero(n:Nat):vS 0 n=0:=by
  have a:∀ k,pw 0 (k+1)=0:=fun k=>Rat.zero_mul _
  have z:∀ n,atS 0 n=0:=fun n=>by
    induction n with
    | zero=>rfl
    | succ n ih =>
      show atS 0 n+alt n*(pw 0 (2*n+1)*_)=0
      rw [ih,a];grind
  have s:∀ n,sinS 0 n=0:=fun n=>by
    induction n with
    | zero=>rfl
    | succ n ih =>
      show sinS 0 n+alt n*dpw 0 (2*n+1)=0
      rw [ih,dpw_zero];grind
  unfold vS
  rw [z,s];grind
theorem vS_steps{d:Rat}(d0:0≤d){N:Nat}(hN:(N:Rat)*d≤1/4)(n:Nat):∀ j:Nat,j≤N→Ab (vS ((j:Rat)*d) n) ((j:Rat)*(2*(400*(d*d)+8*hf n)))
  | 0,_=>by
    have e:((0:Nat):Rat)=0:=rfl
    rw [e,Rat.zero_mul,Rat.zero_mul,vS_zero];exact Ab.zero Rat.le_refl
  | j+1,hj=>by
    have ih:=vS_steps d0 hN n j (by omega)
    have c1:((j+1:Nat):Rat)=(j:Rat)+1:=Rat.natCast_add j 1
    have le:((j+1:Nat):Rat)*d≤(N:Rat)*d:=rmR (by exact_mod_cast hj) d0
    have j0:=rmN (cast_nonneg j) d0
    rw [c1] at le
    have hx:Ab ((j:Rat)*d) (1/4):=⟨by grind,by grind⟩
    have hd:Ab ((j:Rat)*d+d) (1/4):=⟨by grind,by grind⟩
    have st:=vS_step hx hd d0 (by grind) n
    have g:=gS_ab hx n
    have xg:=(hx.mul g).mono (show (1:Rat)/4*2≤1 by decide +kernel)
    have dn:Ab d d:=⟨by grind,by grind⟩
    have m:=ih.mul (dn.mul xg)
    have E0:0≤400*(d*d)+8*hf n:=by have:=rmN d0 d0;have:=hf_nonneg n;grind
    rw [c1,show ((j:Rat)+1)*d=(j:Rat)*d+d by grind]
    have t:=(st.add ih).add m
    refine (t.congr (by grind)).mono ?_
    have:=rmR (show (j:Rat)*d≤1/4 by grind) E0
    grind
theorem two_hf:∀ n:Nat,((2^n:Nat):Rat)*hf n=1
  | 0=>by rw [hf_zero];decide +kernel
  | n+1=>by
    have ih:=two_hf n
    have e:=hf_succ n
    have c:((2^(n+1):Nat):Rat)=((2^n:Nat):Rat)*2:=by rw [Nat.pow_succ];exact Rat.natCast_mul _ _
    rw [c];grind
theorem one_le_cast(n:Nat):(1:Rat)≤((n+1:Nat):Rat):=by
  have c1:((n+1:Nat):Rat)=(n:Rat)+1:=Rat.natCast_add n 1
  have:=cast_nonneg n
  rw [c1];grind
theorem of_nhf{K e:Rat}(K0:0≤K){n:Nat}(h:((n+1:Nat):Rat)*(K*hf (n+1))≤e):K*hf (n+1)≤e:=by
  have p:=rmN K0 (hf_nonneg (n+1))
  have:=rmR (one_le_cast n) p
  grind
theorem arch(K:Rat)(K0:0≤K){e:Rat}(he:0<e):∃ N:Nat,0<N∧K≤(N:Rat)*e:=by
  obtain ⟨M,hM⟩:=nhf_small K e he
  have h:=of_nhf K0 (hM (M+1) (by omega))
  refine ⟨2^(M+1),Nat.two_pow_pos _,?_⟩
  have t:=two_hf (M+1)
  have:=rmL h (cast_nonneg (2^(M+1)))
  generalize ((2^(M+1):Nat):Rat)=C at *
  have e2:C*(K*hf (M+1))=K*(C*hf (M+1)):=by grind
  rw [e2,t] at this;grind
theorem tan_at{x:Rat}(x0:0≤x)(x1:x≤1/4):Near (fun n=>sinS (atS x n) n) (fun n=>x*cosS (atS x n) n):=fun e he=>by
  obtain ⟨N,N1,hN⟩:=arch 200 (by decide +kernel) he
  have Np:(0:Rat)<(N:Rat):=by exact_mod_cast N1
  have im:=Rat.mul_inv_cancel (N:Rat) (fun h=>by grind)
  have ip:0<(N:Rat)⁻¹:=Rat.inv_pos.2 Np
  obtain ⟨d,hd⟩:∃ d:Rat,d=x*(N:Rat)⁻¹:=⟨_,rfl⟩
  have Nd:(N:Rat)*d=x:=by rw [hd];grind
  have d0:0≤d:=by rw [hd];exact rmN x0 (rlL ip)
  obtain ⟨M,hM⟩:=nhf_small (16*(N:Rat)) (e/2) (by grind)
  refine ⟨M+1,fun n hn=>?_⟩
  obtain ⟨m,rfl⟩:∃ m,n=m+1:=⟨n-1,by omega⟩
  have h2:=of_nhf (by grind) (hM (m+1) (by omega))
  have b:=vS_steps d0 (by rw [Nd];exact x1) (m+1) N (Nat.le_refl N)
  rw [Nd] at b
  have h1:800*(x*d)≤e/2:=by
    have m1:=rmR x1 d0
    have m2:=rmR x1 (rlL ip)
    have m3:=rmR hN (rlL ip)
    have e3:(N:Rat)*e*(N:Rat)⁻¹=e:=by grind
    rw [e3] at m3
    rw [←hd] at m2
    grind
  have e5:(N:Rat)*(2*(400*(d*d)+8*hf (m+1)))=800*(x*d)+16*(N:Rat)*hf (m+1):=by rw [←Nd];grind
  rw [e5] at b
  obtain ⟨b1,b2⟩:=b
  unfold vS at b1 b2
  exact ⟨by grind,by grind⟩
theorem dpw_ab2{t:Rat}(h:Ab t 2):∀ k,Ab (dpw t k) (16*hf k):=by
  have st:∀ (k:Nat) (K:Rat),Ab (dpw t k) K→Ab (((k+1:Nat):Rat)*dpw t (k+1)) (2*K):=fun k K i=>by rw [dpw_succ];exact h.mul i
  have e0:dpw t 0=1:=rfl
  have b0:Ab (dpw t 0) 1:=by rw [e0];exact ⟨by grind,by grind⟩
  have h1:hf 1=1/2:=by have:=hf_one;grind
  have h2:hf 2=1/4:=by have:=hf_succ 1;grind
  have h3:hf 3=1/8:=by have:=hf_succ 2;grind
  have b1:Ab (dpw t 1) 2:=Ab.of_mul (nat_pos 0) ((st 0 1 b0).mono (by rw [show ((0+1:Nat):Rat)=1 from rfl];grind))
  have b2:Ab (dpw t 2) 2:=Ab.of_mul (nat_pos 1) ((st 1 2 b1).mono (by rw [show ((1+1:Nat):Rat)=2 from rfl];grind))
  have b3:Ab (dpw t 3) 2:=Ab.of_mul (nat_pos 2) ((st 2 2 b2).mono (by rw [show ((2+1:Nat):Rat)=3 from rfl];grind))
  have rest:∀ k,Ab (dpw t (k+3)) (16*hf (k+3)):=fun k=>by
    induction k with
    | zero=>exact b3.mono (by rw [h3];decide +kernel)
    | succ k ih =>
      refine Ab.of_mul (nat_pos (k+3)) ((st (k+3) _ ih).mono ?_)
      have e:=hf_succ (k+3)
      have c:((k+3+1:Nat):Rat)=(k:Rat)+4:=Rat.natCast_add k 4
      have p:=rmN (cast_nonneg k) (hf_nonneg (k+3+1))
      rw [c,e];grind
  intro k
  match k with
  | 0=>exact b0.mono (by rw [hf_zero];decide +kernel)
  | 1=>exact b1.mono (by rw [h1];decide +kernel)
  | 2=>exact b2.mono (by rw [h2];decide +kernel)
  | k+3=>exact rest k
theorem cosT_dec2{t:Rat}(h:Ab t 2):Dec 16 (cosT t):=fun i=>((dpw_ab2 h (2*i)).alt i).mono (by have:=hf_mono2 i;grind)
theorem sinT_dec2{t:Rat}(h:Ab t 2):Dec 16 (sinT t):=fun i=>((dpw_ab2 h (2*i+1)).alt i).mono (by have:=hf_mono3 i;grind)
theorem sin_ab2{t:Rat}(h:Ab t 2)(n:Nat):Ab (sinS t n) 32:=(sum_ab (fun i=>sinT_dec2 h i) n).mono (by decide +kernel)
theorem cos_ab2{t:Rat}(h:Ab t 2)(n:Nat):Ab (cosS t n) 32:=(sum_ab (fun i=>cosT_dec2 h i) n).mono (by decide +kernel)
def sinQ(a:Nat→Rat)(n:Nat):Rat:=sinS (a n) n
def cosQ(a:Nat→Rat)(n:Nat):Rat:=cosS (a n) n
def AbS(a:Nat→Rat)(K:Rat):Prop:=∀ n,Ab (a n) K
theorem AbS.mono{a:Nat→Rat}{K L:Rat}(h:AbS a K)(k:K≤L):AbS a L:=fun n=>(h n).mono k
theorem AbS.sin{a:Nat→Rat}(h:AbS a 2):AbS (sinQ a) 32:=fun n=>sin_ab2 (h n) n
theorem AbS.cos{a:Nat→Rat}(h:AbS a 2):AbS (cosQ a) 32:=fun n=>cos_ab2 (h n) n
theorem AbS.mul{a b:Nat→Rat}{K L:Rat}(h:AbS a K)(k:AbS b L):AbS (fun n=>a n*b n) (K*L):=fun n=>(h n).mul (k n)
theorem AbS.add{a b:Nat→Rat}{K L:Rat}(h:AbS a K)(k:AbS b L):AbS (fun n=>a n+b n) (K+L):=fun n=>(h n).add (k n)
theorem Near.mul{s t s' t':Nat→Rat}{K L:Rat}(h:Near s t)(k:Near s' t')(hs:AbS s' K)(ht:AbS t L):Near (fun n=>s n*s' n) (fun n=>t n*t' n):=fun e he=>by
  have K0:=(hs 0).nonneg
  have L0:=(ht 0).nonneg
  obtain ⟨d,d0,hd⟩:∃ d:Rat,0<d∧d*K+L*d≤e:=by
    have p:0<K+L+1:=by grind
    have i:=Rat.inv_pos.2 p
    have im:=Rat.mul_inv_cancel (K+L+1) (fun h=>by grind)
    refine ⟨e*(K+L+1)⁻¹,Rat.mul_pos he i,?_⟩
    have q:=Rat.mul_pos he i
    have:e*(K+L+1)⁻¹*(K+L+1)=e:=by grind
    grind
  obtain ⟨N,h1⟩:=h d d0
  obtain ⟨M,k1⟩:=k d d0
  refine ⟨max N M,fun n hn=>?_⟩
  have a1:=h1 n (by omega)
  have b1:=k1 n (by omega)
  have A:Ab (s n-t n) d:=⟨by grind,by grind⟩
  have B:Ab (s' n-t' n) d:=⟨by grind,by grind⟩
  have m:=(A.mul (hs n)).add ((ht n).mul B)
  have m:=(m.congr (show s n*s' n-t n*t' n=(s n-t n)*s' n+t n*(s' n-t' n) by grind)).mono hd
  exact ⟨by have:=m.2;grind,by have:=m.1;grind⟩
theorem Near.congr{s t s' t':Nat→Rat}(h:Near s t)(e:∀ n,s' n=s n)(k:∀ n,t' n=t n):Near s' t':=by
  rw [show s'=s from funext e,show t'=t from funext k];exact h
theorem cos_add_bd{s t:Rat}(hs:Ab s 2)(ht:Ab t 2)(n:Nat):Ab (cosS (s+t) n-(cosS s n*cosS t n-sinS s n*sinS t n)) ((n:Rat)*(1536*hf n)):=by
  have hA:=cosT_dec2 hs
  have hB:=cosT_dec2 ht
  have hC:=sinT_dec2 hs
  have hD:=sinT_dec2 ht
  have e:∀ n,cosS (s+t) (n+1)=sumTo (conv (cosT s) (cosT t)) (n+1)-sumTo (conv (sinT s) (sinT t)) n:=by
    intro n
    induction n with
    | zero =>
      show (0:Rat)+1*1=0+(0+1*1*(1*1))-0
      grind
    | succ n ih =>
      have h:=cosT_add s t n
      show cosS (s+t) (n+1)+cosT (s+t) (n+1)=(sumTo (conv (cosT s) (cosT t)) (n+1)+conv (cosT s) (cosT t) (n+1))-(sumTo (conv (sinT s) (sinT t)) n+conv (sinT s) (sinT t) n)
      rw [ih,h];grind
  cases n with
  | zero =>
    have z:cosS (s+t) 0-(cosS s 0*cosS t 0-sinS s 0*sinS t 0)=0:=by show (0:Rat)-(0*0-0*0)=0;grind
    rw [z];exact Ab.zero (rmN (cast_nonneg 0) (by have:=hf_nonneg 0;grind))
  | succ n =>
    have p1:=prod_near hA hB (n+1)
    have p2:=prod_near hC hD (n+1)
    have c:=conv_small hC hD n
    have q:=hf_succ n
    have u:sumTo (conv (sinT s) (sinT t)) (n+1)=sumTo (conv (sinT s) (sinT t)) n+conv (sinT s) (sinT t) n:=rfl
    have v1:cosS s (n+1)=sumTo (cosT s) (n+1):=rfl
    have v2:cosS t (n+1)=sumTo (cosT t) (n+1):=rfl
    have v3:sinS s (n+1)=sumTo (sinT s) (n+1):=rfl
    have v4:sinS t (n+1)=sumTo (sinT t) (n+1):=rfl
    rw [e n,v1,v2,v3,v4]
    have r:((n+1:Nat):Rat)*(16*16*hf n)=((n+1:Nat):Rat)*(512*hf (n+1)):=by rw [q];grind
    rw [r] at c
    exact ⟨by grind,by grind⟩
theorem sin_add_bd{s t:Rat}(hs:Ab s 2)(ht:Ab t 2)(n:Nat):Ab (sinS (s+t) n-(cosS s n*sinS t n+sinS s n*cosS t n)) ((n:Rat)*(1536*hf n)):=by
  have p1:=prod_near (cosT_dec2 hs) (sinT_dec2 ht) n
  have p2:=prod_near (sinT_dec2 hs) (cosT_dec2 ht) n
  have e:sinS (s+t) n=sumTo (conv (cosT s) (sinT t)) n+sumTo (conv (sinT s) (cosT t)) n:=by
    rw [←sumTo_add];exact sumTo_congr fun i _=>sinT_add s t i
  have v1:cosS s n=sumTo (cosT s) n:=rfl
  have v2:cosS t n=sumTo (cosT t) n:=rfl
  have v3:sinS s n=sumTo (sinT s) n:=rfl
  have v4:sinS t n=sumTo (sinT t) n:=rfl
  have p:=rmN (cast_nonneg n) (hf_nonneg n)
  rw [e,v1,v2,v3,v4]
  exact ⟨by grind,by grind⟩
theorem near_bdQ{s t:Nat→Rat}{K:Rat}(h:∀ n,Ab (s n-t n) ((n:Rat)*(K*hf n))):Near s t:=near_of_bound (K:=K) fun n=>⟨(h n).2,(h n).1⟩
section
variable {a b:Nat→Rat} (ha:AbS a 2) (hb:AbS b 2)
include ha hb
theorem sinQ_add:Near (sinQ fun n=>a n+b n) (fun n=>cosQ a n*sinQ b n+sinQ a n*cosQ b n):=near_bdQ fun n=>sin_add_bd (ha n) (hb n) n
theorem cosQ_add:Near (cosQ fun n=>a n+b n) (fun n=>cosQ a n*cosQ b n-sinQ a n*sinQ b n):=near_bdQ fun n=>cos_add_bd (ha n) (hb n) n
end
theorem sinQ_neg(a:Nat→Rat)(n:Nat):sinQ (fun n=>-a n) n = -sinQ a n:=sinS_neg (a n) n
theorem cosQ_neg(a:Nat→Rat)(n:Nat):cosQ (fun n=>-a n) n=cosQ a n:=cosS_neg (a n) n
theorem AbS.neg{a:Nat→Rat}{K:Rat}(h:AbS a K):AbS (fun n=>-a n) K:=fun n=>(h n).neg
theorem apow_pw(n:Int):∀ k,apow n k=pw (n:Rat)⁻¹ (2*k+1)
  | 0=>by show (n:Rat)⁻¹=(n:Rat)⁻¹*1;grind
  | k+1=>by
    have ih:=apow_pw n k
    show apow n k*((n*n:Int):Rat)⁻¹=(n:Rat)⁻¹*((n:Rat)⁻¹*pw (n:Rat)⁻¹ (2*k+1))
    have iv:((n*n:Int):Rat)⁻¹=(n:Rat)⁻¹*(n:Rat)⁻¹:=by
      rw [rcM]
      by_cases h:(n:Rat)=0
      · rw [h];decide +kernel
      · have a:=Rat.mul_inv_cancel (n:Rat) h
        have b:=Rat.mul_inv_cancel ((n:Rat)*(n:Rat)) (fun k=>by rcases Rat.mul_eq_zero.1 k with k | k<;>exact h k)
        generalize ((n:Rat)*(n:Rat))⁻¹=X at *
        generalize (n:Rat)⁻¹=Y at *
        have:X=X*((n:Rat)*Y)*((n:Rat)*Y):=by rw [a];grind
        grind
    rw [ih,iv];grind
theorem at_pw(n:Int)(k:Nat):atT n k=qw (n:Rat)⁻¹ (2*k):=by
  unfold atT qw
  rw [apow_pw]
  have:((2*(k:Int)+1:Int):Rat)=((2*k+1:Nat):Rat):=by
    have h:(2*(k:Int)+1:Int)=((2*k+1:Nat):Int):=by omega
    rw [h];rfl
  rw [this]
theorem sgn_at(n:Int)(m:Nat):sgnS true (atT n) m=atS (n:Rat)⁻¹ m:=sumTo_congr fun k _=>by rw [at_pw];rfl
def qpS(n:Nat):Rat:=1/4*piS n
theorem fifth:Ab ((1:Rat)/5) (1/4)∧Ab ((1:Rat)/239) (1/4):=⟨⟨by decide +kernel,by decide +kernel⟩,⟨by decide +kernel,by decide +kernel⟩⟩
def at5:Nat→Rat:=atS (1/5)
def at239:Nat→Rat:=atS (1/239)
theorem at5_ab:AbS at5 (1/2):=fun n=>atS_ab fifth.1 n
theorem at239_ab:AbS at239 (1/2):=fun n=>atS_ab fifth.2 n
theorem qpS_eq(n:Nat):qpS n=(at5 n+at5 n+(at5 n+at5 n)) + -at239 n:=by
  unfold qpS piS at5 at239
  rw [sgn_at,sgn_at]
  have e1:((5:Int):Rat)⁻¹=1/5:=by decide +kernel
  have e2:((239:Int):Rat)⁻¹=1/239:=by decide +kernel
  rw [e1,e2];grind
theorem twice_tan{a c:Nat→Rat}{q r K:Rat}(ha:AbS a 2)(hc:AbS c K)(h1:Near (sinQ a) (fun n=>q*c n))(h2:Near (cosQ a) (fun n=>r*c n)) :
    Near (sinQ fun n=>a n+a n) (fun n=>2*q*r*(c n*c n))∧Near (cosQ fun n=>a n+a n) (fun n=>(r*r-q*q)*(c n*c n)):=by
  have L:∀ z:Rat,∃ L,AbS (fun n=>z*c n) L:=fun z=>⟨_,fun n=>(show Ab z (z*z+1) from ⟨by have:=sqN (z+1);have:=sqN z;grind,by have:=sqN (z-1);have:=sqN z;grind⟩).mul (hc n)⟩
  obtain ⟨L1,l1⟩:=L q
  obtain ⟨L2,l2⟩:=L r
  have m1:=h1.mul h2 ha.cos l1
  have m2:=h2.mul h2 ha.cos l2
  have m3:=h1.mul h1 ha.sin l1
  have n1:Near (fun n=>cosQ a n*sinQ a n+sinQ a n*cosQ a n) (fun n=>2*q*r*(c n*c n)):=(m1.add m1).congr (fun n=>by grind) (fun n=>by grind)
  have n2:Near (fun n=>cosQ a n*cosQ a n-sinQ a n*sinQ a n) (fun n=>(r*r-q*q)*(c n*c n)):=(m2.sub m3).congr (fun _=>rfl) (fun n=>by grind)
  exact ⟨(sinQ_add ha ha).trans n1,(cosQ_add ha ha).trans n2⟩
theorem qp_like:Near (sinQ qpS) (cosQ qpS):=by
  have A2:AbS (fun n=>at5 n+at5 n) 1:=(at5_ab.add at5_ab).mono (by decide +kernel)
  have A4:AbS (fun n=>at5 n+at5 n+(at5 n+at5 n)) 2:=(A2.add A2).mono (by decide +kernel)
  have B:=at239_ab.neg.mono (show (1:Rat)/2≤2 by decide +kernel)
  have t5:Near (sinQ at5) (fun n=>1/5*cosQ at5 n):=tan_at (by decide +kernel) (by decide +kernel)
  have t9:Near (sinQ at239) (fun n=>1/239*cosQ at239 n):=tan_at (by decide +kernel) (by decide +kernel)
  have c5:=(at5_ab.mono (show (1:Rat)/2≤2 by decide +kernel)).cos
  have c9:=(at239_ab.mono (show (1:Rat)/2≤2 by decide +kernel)).cos
  obtain ⟨u1,u2⟩:=twice_tan (at5_ab.mono (show (1:Rat)/2≤2 by decide +kernel)) c5 t5 ((Near.refl (cosQ at5)).congr (fun _=>rfl) (fun n=>(Rat.one_mul _)))
  obtain ⟨v1,v2⟩:=twice_tan (A2.mono (by decide +kernel)) (c5.mul c5) u1 u2
  have w1:Near (sinQ fun n=>-at239 n) (fun n=>-(1/239*cosQ at239 n)):=t9.neg.congr (fun n=>sinQ_neg at239 n) (fun _=>rfl)
  have w2:Near (cosQ fun n=>-at239 n) (cosQ at239):=(Near.refl _).congr (fun n=>cosQ_neg at239 n) (fun _=>rfl)
  have bB:=c5.mul c5
  have bC:=bB.mul bB
  have bq:∀ z:Rat,∃ L,AbS (fun n=>z*(cosQ at5 n*cosQ at5 n*(cosQ at5 n*cosQ at5 n))) L:=fun z=>⟨_,fun n=>(show Ab z (z*z+1) from ⟨by have:=sqN (z+1);have:=sqN z;grind,by have:=sqN (z-1);have:=sqN z;grind⟩).mul (bC n)⟩
  obtain ⟨L1,l1⟩:=bq (2*(2*(1/5)*1)*(1*1-1/5*(1/5)))
  obtain ⟨L2,l2⟩:=bq ((1*1-1/5*(1/5))*(1*1-1/5*(1/5))-2*(1/5)*1*(2*(1/5)*1))
  have e:qpS=fun n=>at5 n+at5 n+(at5 n+at5 n) + -at239 n:=funext qpS_eq
  have S:=sinQ_add A4 B
  have C:=cosQ_add A4 B
  rw [e]
  have S':=S.trans ((v2.mul w1 B.sin l2).add (v1.mul w2 B.cos l1))
  have C':=C.trans ((v2.mul w2 B.cos l2).sub (v1.mul w1 B.sin l1))
  refine S'.trans (Near.trans (Near.of_eq 0 fun n _=>?_) C'.symm)
  grind
theorem sin_lip{a c δ:Rat}(ha:Ab a 1)(hc:Ab c 1)(hd:Ab (a-c) δ)(d1:δ≤1)(n:Nat):Ab (sinS a n-sinS c n) (12*δ):=by
  have s:=sin_step hc (d:=a-c) (by rw [show c+(a-c)=a by grind];exact ha) n
  rw [show c+(a-c)=a by grind] at s
  have q:=hd.sq
  have m:=hd.mul (cos_ab hc n)
  have d0:=hd.nonneg
  have dd:=rmL d1 d0
  exact ((s.add m).congr (by grind)).mono (by grind)
theorem cos_lip{a c δ:Rat}(ha:Ab a 1)(hc:Ab c 1)(hd:Ab (a-c) δ)(d1:δ≤1)(n:Nat):Ab (cosS a n-cosS c n) (12*δ+4*hf n):=by
  have s:=cos_step hc (d:=a-c) (by rw [show c+(a-c)=a by grind];exact ha) n
  rw [show c+(a-c)=a by grind] at s
  have q:=hd.sq
  have m:=hd.mul (sin_ab hc n)
  have d0:=hd.nonneg
  have dd:=rmL d1 d0
  exact ((s.sub m).congr (by grind)).mono (by grind)
theorem tail_ab{b:Nat→Rat}(h:∀ i,Ab (b i) (2*hf i)){n m:Nat}(k:n≤m):Ab (sumTo b m-sumTo b n) (4*hf n):=by
  have:=Dec.tail_le (B:=2) (b:=b) h k
  exact ⟨by grind,by grind⟩
theorem sin_tail{a:Rat}(ha:Ab a 1){n m:Nat}(k:n≤m):Ab (sinS a m-sinS a n) (4*hf n) :=
  tail_ab (fun i=>((dpw_ab ha (2*i+1)).alt i).mono (by have:=hf_mono3 i;grind)) k
theorem cos_tail{a:Rat}(ha:Ab a 1){n m:Nat}(k:n≤m):Ab (cosS a m-cosS a n) (4*hf n) :=
  tail_ab (fun i=>((dpw_ab ha (2*i)).alt i).mono (by have:=hf_mono2 i;grind)) k
theorem hf_small{e:Rat}(he:0<e):∃ N,∀ n,N≤n→16*hf n≤e:=by
  obtain ⟨M,hM⟩:=nhf_small 16 e he
  refine ⟨M+1,fun n hn=>?_⟩
  obtain ⟨m,rfl⟩:∃ m,n=m+1:=⟨n-1,by omega⟩
  exact of_nhf (by decide +kernel) (hM (m+1) (by omega))
theorem enc_along{f:Rat→Nat→Rat}(lip:∀ a c δ:Rat,Ab a 1→Ab c 1→Ab (a-c) δ→δ≤1→∀ n,Ab (f a n-f c n) (12*δ+4*hf n))(tail:∀ a:Rat,Ab a 1→∀ n m,n≤m→Ab (f a m-f a n) (4*hf n))
    {a:Nat→Rat} {lo hi L H:Rat} (ha:Enc a lo hi) (l:-(9/10)≤lo) (h:hi≤9/10) (hs:∀ x,lo≤x→x≤hi→Enc (f x) L H):Enc (fun n=>f (a n) n) L H:=fun e he=>by
  have le:=ha.self
  obtain ⟨δ,d0,d1,d2⟩:∃ δ:Rat,0<δ∧δ≤1/10∧48*δ≤e:=by
    by_cases c:e≤1
    · exact ⟨e/48,by grind,by grind,by grind⟩
    · exact ⟨1/48,by grind,by grind,by grind⟩
  obtain ⟨N,hN⟩:=ha δ d0
  obtain ⟨M,hM⟩:=hf_small (e:=e/2) (by grind)
  refine ⟨max N M,fun n hn=>?_⟩
  have h1:=hN n (by omega)
  have h2:=hM n (by omega)
  obtain ⟨c,c1,c2,c3⟩:∃ c,lo≤c∧c≤hi∧Ab (a n-c) δ:=by
    by_cases k:a n<lo
    · exact ⟨lo,Rat.le_refl,le,by grind,by grind⟩
    · by_cases k':hi<a n
      · exact ⟨hi,le,Rat.le_refl,by grind,by grind⟩
      · exact ⟨a n,by grind,by grind,by grind,by grind⟩
  have cb:Ab c 1:=⟨by grind,by grind⟩
  have ab:Ab (a n) 1:=⟨by grind,by grind⟩
  obtain ⟨K,hK⟩:=hs c c1 c2 (e/4) (by grind)
  have t:=tail c cb n (max n K) (by omega)
  have u:=hK (max n K) (by omega)
  have v:=lip (a n) c δ ab cb c3 (by grind) n
  obtain ⟨t1,t2⟩:=t
  obtain ⟨v1,v2⟩:=v
  exact ⟨by grind,by grind⟩
theorem enc_sinQ{a:Nat→Rat}{lo hi L H:Rat}(ha:Enc a lo hi)(l:-(9/10)≤lo)(h:hi≤9/10)(hs:∀ x,lo≤x→x≤hi→Enc (sinS x) L H):Enc (sinQ a) L H :=
  enc_along (f:=sinS) (fun a c δ ha hc hd d1 n=>(sin_lip ha hc hd d1 n).mono (by have:=hf_nonneg n;grind)) (fun _ ha _ _ k=>sin_tail ha k) ha l h hs
theorem enc_cosQ{a:Nat→Rat}{lo hi L H:Rat}(ha:Enc a lo hi)(l:-(9/10)≤lo)(h:hi≤9/10)(hs:∀ x,lo≤x→x≤hi→Enc (cosS x) L H):Enc (cosQ a) L H :=
  enc_along (f:=cosS) (fun a c δ ha hc hd d1 n=>cos_lip ha hc hd d1 n) (fun _ ha _ _ k=>cos_tail ha k) ha l h hs
def htS(r:Rat)(n:Nat):Rat:=r*piS n
theorem ht_enc{d:Rat}{P:Vx}(hP:PiIv d P)(d1:d≤1/100){r:Rat}(r1:-(1/4)≤r)(r2:r≤1/4):∃ lo hi,Enc (htS r) lo hi∧-(9/10)≤lo∧hi≤9/10∧∀ x,lo≤x→x≤hi→∃ c,InV P c∧x=r*c:=by
  have up:=hP.up d1
  have l3:=hP.lo
  have le:=hP.le
  rcases (show 0<r∨r=0∨r<0 by grind) with c | c | c
  · have im:=Rat.inv_mul_cancel r (by grind)
    have ip:=Rat.inv_pos.2 c
    have m:=rmR r2 (show 0≤P.hi.rv by grind)
    have m0:=rmN (rlL c) (show 0≤P.lo.rv by grind)
    generalize r⁻¹=i at im ip
    refine ⟨r*P.lo.rv,r*P.hi.rv,hP.enc.scale (rlL c),by grind,by grind,fun x x1 x2=>⟨i*x,⟨?_,?_⟩,by grind⟩⟩
    · have:=rmL x1 (rlL ip);rwa [←Rat.mul_assoc,im,Rat.one_mul] at this
    · have:=rmL x2 (rlL ip);rwa [←Rat.mul_assoc,im,Rat.one_mul] at this
  · refine ⟨0,0,?_,by grind,by grind,fun x x1 x2=>⟨P.lo.rv,⟨Rat.le_refl,le⟩,by grind⟩⟩
    have e:htS r=fun _=>0:=funext fun n=>by unfold htS;rw [c];grind
    rw [e];exact Enc.const 0
  · have im:=Rat.inv_mul_cancel (-r) (by grind)
    have ip:=Rat.inv_pos.2 (show 0 < -r by grind)
    have m:=rmR (show -r≤1/4 by grind) (show 0≤P.hi.rv by grind)
    have m0:=rmN (show 0≤-r by grind) (show 0≤P.lo.rv by grind)
    have en:=(hP.enc.scale (show 0≤-r by grind)).neg
    have e:htS r=fun n=>-(-r*piS n):=funext fun n=>by unfold htS;grind
    generalize (-r)⁻¹=i at im ip
    refine ⟨r*P.hi.rv,r*P.lo.rv,?_,by grind,by grind,fun x x1 x2=>⟨i * -x,⟨?_,?_⟩,by grind⟩⟩
    · rw [e];exact en.wide (by grind) (by grind)
    · have:=rmL (show -r*P.lo.rv≤-x by grind) (rlL ip);rwa [←Rat.mul_assoc,im,Rat.one_mul] at this
    · have:=rmL (show -x≤-r*P.hi.rv by grind) (rlL ip);rwa [←Rat.mul_assoc,im,Rat.one_mul] at this
theorem near_seqs{r:Dx}(hr:0≤r.m)(h1:-(1/4)≤r.rv)(h2:r.rv≤1/4){p:Int}(p0:8≤p)(p1:p≤2064){S C:Vx}(e:nearT r p=((S,C),0)):Enc (sinQ (htS r.rv)) S.lo.rv S.hi.rv∧Enc (cosQ (htS r.rv)) C.lo.rv C.hi.rv:=by
  have pi:=constPi_iv (p:=p+48) (by omega) (by omega)
  obtain ⟨lo,hi,en,l,h,al⟩:=ht_enc (pi.mono (show p2 (-3-(p+48))≤p2 (-7) from p2_le (by omega))) (by decide +kernel) h1 h2
  exact ⟨enc_sinQ en l h fun x x1 x2=>by obtain ⟨c,hc,rfl⟩:=al x x1 x2;exact (nearT_half hr h1 h2 p0 p1 e hc).1.e,
    enc_cosQ en l h fun x x1 x2=>by obtain ⟨c,hc,rfl⟩:=al x x1 x2;exact (nearT_half hr h1 h2 p0 p1 e hc).2.e⟩
def wEn(g:Int→Int→Int→Vx×Int):Spec:=specK [.i .u8,.i .u64,.i .i64] fun (f x p:Int)=>(some (Word x),reT (g f x p))
def sBg18(fE:Int→Int→Int→Vx×Int)(fI:Int→Dx)(fH:Vx→Dx→Bool)(fS:Vx→Vx→Bool)(fN:Vx→Int→Bool):List (FuncId×Spec):=[(10,wEn fE),(34,specK [.i .i64] fun (n:Int)=>(some (inR n),dT (fI n))),(46,specK [.v,.d] fun (v:Vx) (d:Dx)=>(none,bT (fH v d))),(15,xVVb fS),(47,xVIb fN)]
theorem lBg18_vc(fE:Int→Int→Int→Vx×Int)(fI:Int→Dx)(fH:Vx→Dx→Bool)(fS:Vx→Vx→Bool)(fN:Vx→Int→Bool)(Q:Tv→Prop):execF ⟨tysT,sBg18 fE fI fH fS fN⟩ (fun _=>none) 0 Tryz.f14 [] Q=(Word 4602678819172646912∧Word 4602678819172646912∧Word 4602678819172646912∧Word 4598175219545276416∧inR 1∧br (eqI (fE 16 4602678819172646912 64).snd 0) (br (fH (fE 16 4602678819172646912 64).fst (fI 1)) (br (eqI (fE 17 4602678819172646912 64).snd 0) (br (fS (fE 17 4602678819172646912 64).fst (Vx.mk (Dx.mk false [] 0) (Dx.mk false [] 0))) (br (eqI (fE 18 4602678819172646912 64).snd 5) (br (eqI (fE 18 4598175219545276416 64).snd 0) (br (fH (fE 18 4598175219545276416 64).fst (fI 1)) (Q (bT (fN (fE 18 4598175219545276416 64).fst 64))) (Q (bT false))) (Q (bT false))) (Q (bT false))) (Q (bT false))) (Q (bT false))) (Q (bT false))) (Q (bT false))):=by kernel_rfl
def sEn18(fE hE:Int→Int→Int→Vx×Int)(i1 i2:Int→Bool)(fS:Vx→Vx→Bool)(fL:Vx→Vx→Int→Bool):List (FuncId×Spec):=[(10,wEn fE),(11,wEn hE),(12,wIs i1),(13,wIs i2),(14,wTrue),(15,xVVb fS),(16,specK [.v,.v,.i .i64] fun (v:Vx) (u:Vx) (p:Int)=>(some (u.Sm 34359738368),bT (fL v u p)))]
theorem lEn18_vc(f x p:Int)(fE hE:Int→Int→Int→Vx×Int)(i1 i2:Int→Bool)(fS:Vx→Vx→Bool)(fL:Vx→Vx→Int→Bool)(Q:Tv→Prop):execF ⟨tysT,sEn18 fE hE i1 i2 fS fL⟩ (fun _=>none) 0 Tryz.f3 [.one (.int .u8 f),.one (.int .u64 x),.one (.int .i64 p)] Q=(Word x∧Word x∧br (!i1 f == i2 f) (Q (bT false)) (br (neI (fE f x p).snd (hE f x p).snd) (Q (bT false)) (br (neI (fE f x p).snd 0) (Q (bT (fS (fE f x p).fst (Vx.mk (Dx.mk false [] 0) (Dx.mk false [] 0))))) (Vx.Sm 34359738368 (hE f x p).fst∧Q (bT (fL (fE f x p).fst (hE f x p).fst p)))))):=by kernel_rfl
def wDIr2(f:Dx→Int→(Vx×Vx)×Int):Spec:=specK [.d,.i .i64] fun (x:Dx) (p:Int)=>(none,reT2 (f x p))
def sBt18(fB hB:Dx→Int→(Vx×Vx)×Int)(tf:Dx→Int×Dx×Int)(fA:Dx→Bool)(fS:Vx→Vx→Bool)(fL:Vx→Vx→Int→Bool):List (FuncId×Spec):=[(25,fCopy),(26,wDIr2 fB),(27,wDIr2 hB),(28,specK [.d] fun (x:Dx)=>(none,turT (tf x))),(14,wTrue),(29,fSame),(30,specK [.d] fun (d:Dx)=>(some (d.Sm 131072),bT (fA d))),(15,xVVb fS),(16,specK [.v,.v,.i .i64] fun (v:Vx) (u:Vx) (p:Int)=>(some (u.Sm 34359738368),bT (fL v u p)))]
theorem lBt18_vc(x:Dx)(p:Int)(fB hB:Dx→Int→(Vx×Vx)×Int)(tf:Dx→Int×Dx×Int)(fA:Dx→Bool)(fS:Vx→Vx→Bool)(fL:Vx→Vx→Int→Bool)(Q:Tv→Prop):execF ⟨tysT,sBt18 fB hB tf fA fS fL⟩ (fun _=>none) 0 Tryz.f6 [.agg (dyL false x),.one (.int .i64 p)] Q=(br (!sameD x x) (Q (bT false)) (br (neI (fB x p).snd (hB x p).snd) (br (neI (hB x p).snd 0) (Q (bT false)) (br (neI (fB x p).snd 3) (Q (bT false)) (Dx.Sm 131072 (tf x).snd.fst∧br (!fA (tf x).snd.fst) (Q (bT false)) (br (neI (fB x p).snd 0) (br (fS (fB x p).fst.fst (Vx.mk (Dx.mk false [] 0) (Dx.mk false [] 0))) (Q (bT (fS (fB x p).fst.snd (Vx.mk (Dx.mk false [] 0) (Dx.mk false [] 0))))) (Q (bT false))) (Vx.Sm 34359738368 (hB x p).fst.fst∧br (fL (fB x p).fst.fst (hB x p).fst.fst p) (Vx.Sm 34359738368 (hB x p).fst.snd∧Q (bT (fL (fB x p).fst.snd (hB x p).fst.snd p))) (Q (bT false))))))) (br (neI (fB x p).snd 0) (br (fS (fB x p).fst.fst (Vx.mk (Dx.mk false [] 0) (Dx.mk false [] 0))) (Q (bT (fS (fB x p).fst.snd (Vx.mk (Dx.mk false [] 0) (Dx.mk false [] 0))))) (Q (bT false))) (Vx.Sm 34359738368 (hB x p).fst.fst∧br (fL (fB x p).fst.fst (hB x p).fst.fst p) (Vx.Sm 34359738368 (hB x p).fst.snd∧Q (bT (fL (fB x p).fst.snd (hB x p).fst.snd p))) (Q (bT false)))))):=by kernel_rfl
theorem fltD_f(x:Int):OneF (fltD x):=⟨fneg x,fltM x,fltE x,by unfold fltM;have:=ffr_bd x;split<;>omega,rfl⟩
theorem fltD_bd{x:Int}(h:fexp x≠2047):(fltD x).Bd 1074 1024:=by
  have a:=ffr_bd x
  have b:=fexp_bd x
  have m0:0≤fltM x∧fltM x<9007199254740992:=by unfold fltM;split<;>omega
  have e0:-1074≤fltE x∧fltE x≤971:=by unfold fltE;split<;>omega
  have bl:blen (fltM x)≤53:=blen_le (by omega)
  exact mkD_bd m0.1 (by omega) (by omega) (by omega) (by omega)
theorem flt_half:fltD 4602678819172646912=⟨false,[1],-1⟩:=by rw [fltD,mkD_K];kernel_rfl
theorem flt_quarter:fltD 4598175219545276416=⟨false,[1],-2⟩:=by rw [fltD,mkD_K];kernel_rfl
theorem tur_half:turR ⟨false,[1],-1⟩=(1,⟨false,[],0⟩,0):=by
  have f1:OneF ⟨false,[1],-1⟩:=lit_f (by decide) (by decide) (by decide)
  have o1:=oneD_id f1
  have r1:(⟨false,[1],-1⟩:Dx).rv=1/2:=by rw [lit_rv,p2_v.2.2.1];decide +kernel
  have rs:(shiftD ⟨false,[1],-1⟩ 1).rv=1:=by rw [rv_shift f1.p,r1,p2_v.2.1];decide +kernel
  obtain ⟨n1,n2⟩:=nearN_of (d:=shiftD ⟨false,[1],-1⟩ 1) shiftD_p (n:=1) (by rw [rs];exact ⟨by decide +kernel,by decide +kernel,fun h=>by exfalso;revert h;decide +kernel⟩)
  have e1:turX ⟨false,[1],-1⟩=⟨false,[],0⟩:=(lessD_f f1.p).ext ⟨false,0,0,by decide,rfl⟩ (by
    rw [rv_less f1.p shiftD_p,rv_shift (d:=turN ⟨false,[1],-1⟩) nearD_p,r1]
    have:(turN ⟨false,[1],-1⟩).rv=1:=n2
    rw [this,p2_v.2.2.1,zero_rv];decide +kernel)
  have e2:by4I (turN ⟨false,[1],-1⟩)=1:=by
    show wholeS (nearD (shiftD ⟨false,[1],-1⟩ 1)) % 4=1
    rw [n1];decide
  have k1:(⟨false,[1],-1⟩:Dx).fitsB=true:=by rw [fits_K];decide +kernel
  have k2:(⟨false,[],0⟩:Dx).fitsB=true:=by rw [fits_K];decide +kernel
  rw [turR,o1,e1,e2,if_pos k1,if_pos ⟨k1,k2⟩]
theorem tur_quarter:turR ⟨false,[1],-2⟩=(0,⟨false,[1],-2⟩,0):=by
  have f1:OneF ⟨false,[1],-2⟩:=lit_f (by decide) (by decide) (by decide)
  have o1:=oneD_id f1
  have r1:(⟨false,[1],-2⟩:Dx).rv=1/4:=by rw [lit_rv,p2_v.2.2.2];decide +kernel
  have rs:(shiftD ⟨false,[1],-2⟩ 1).rv=1/2:=by rw [rv_shift f1.p,r1,p2_v.2.1];decide +kernel
  obtain ⟨n1,n2⟩:=nearN_of (d:=shiftD ⟨false,[1],-2⟩ 1) shiftD_p (n:=0) (by rw [rs];exact ⟨by decide +kernel,by decide +kernel,fun _=>by decide⟩)
  have e1:turX ⟨false,[1],-2⟩=⟨false,[1],-2⟩:=(lessD_f f1.p).ext f1 (by
    rw [rv_less f1.p shiftD_p,rv_shift (d:=turN ⟨false,[1],-2⟩) nearD_p,r1]
    have:(turN ⟨false,[1],-2⟩).rv=0:=n2
    rw [this,p2_v.2.2.1];decide +kernel)
  have e2:by4I (turN ⟨false,[1],-2⟩)=0:=by
    show wholeS (nearD (shiftD ⟨false,[1],-2⟩ 1)) % 4=0
    rw [n1];decide
  have k1:(⟨false,[1],-2⟩:Dx).fitsB=true:=by rw [fits_K];decide +kernel
  rw [turR,o1,e1,e2,if_pos k1,if_pos ⟨k1,k1⟩]
theorem of_half_t{p:Int}:ofTp ⟨false,[1],-1⟩ p=((unitV,zeroIv),0):=by
  have n:nearT ⟨false,[],0⟩ p=((zeroIv,unitV),0):=by rw [nearT,if_pos (show Dx.zeroB ⟨false,[],0⟩=true from rfl)]
  rw [ofTp,tur_half,if_pos rfl,n,if_pos rfl,turnP,if_pos rfl,turn_zero]
theorem unit_has{p:Int}(hp:1≤p):InV (trimV unitV p) 1:=by
  have r:(mkS 1 0).rv=1:=rv_int 1
  have u:unitV.lo.rv=1∧unitV.hi.rv=1:=by
    have h:=one_half (η:=1) (by decide)
    exact ⟨h.2.2.1,h.2.2.2⟩
  exact trim_in2 (v:=unitV) ⟨oneD_p,oneD_p⟩ hp ⟨by rw [u.1];exact Rat.le_refl,by rw [u.2];exact Rat.le_refl⟩
theorem hasV_of{v:Vx}(h:rightV v=true){d:Dx}(hf:d.fitsB=true)(i:InV v d.rv):hasV v d=true:=by
  rw [hasV,h,hf,leI_true.2 (cmpD_le.2 i.1),leI_true.2 (cmpD_le.2 i.2)];rfl
theorem encl_parts{v u:Vx}{p:Int}(h:enclB v u p=true):rightV v=true∧narrowB v p=true:=by
  unfold enclB at h
  simp only [Bool.and_eq_true] at h
  exact ⟨h.1,h.2.2.1⟩
theorem flt_enc{x p:Int}(hx:fexp x≠2047)(p0:8≤p)(p1:p≤2048):(ofTp (fltD x) (p+8)).2=0∧enclB (trimV (ofTp (fltD x) (p+8)).1.1 (p+8)) (bothU (fltD x) p).1.1 p=true∧enclB (trimV (ofTp (fltD x) (p+8)).1.2 (p+8)) (bothU (fltD x) p).1.2 p=true∧TanOk (ofTp (fltD x) (p+8)).1.1 (ofTp (fltD x) (p+8)).1.2 (bothU (fltD x) p).1.1 (bothU (fltD x) p).1.2 p:=by
  obtain ⟨h1,h2⟩:=float_tur (fltD_f x) (fltD_bd hx)
  exact enc18 (fltD_p x) h1 h2 p0 p1
theorem one_fits:(mkS 1 0).fitsB=true:=small_fits (by omega)
theorem beg_s:(encTp 16 4602678819172646912 64).2=0∧hasV (encTp 16 4602678819172646912 64).1 (mkS 1 0)=true:=by
  have e:¬ fexp 4602678819172646912=2047:=by decide
  obtain ⟨h0,h1,_,_⟩:=flt_enc (x:=4602678819172646912) (p:=64) e (by decide) (by decide)
  rw [encTp,if_pos ⟨rfl,by decide,by decide⟩,if_neg e,if_pos h0,if_neg (by decide),if_neg (by decide)]
  refine ⟨rfl,hasV_of (encl_parts h1).1 one_fits ?_⟩
  rw [flt_half,of_half_t,rv_int]
  exact unit_has (by decide)
theorem beg_c:encTp 17 4602678819172646912 64=(zeroIv,0):=by
  have e:¬ fexp 4602678819172646912=2047:=by decide
  rw [encTp,if_pos ⟨rfl,by decide,by decide⟩,if_neg e,flt_half,of_half_t,if_pos rfl,if_pos rfl,trim_zero _ (by decide)]
theorem beg_t:(encTp 18 4602678819172646912 64).2=5:=by
  have e:¬ fexp 4602678819172646912=2047:=by decide
  rw [encTp,if_pos ⟨rfl,by decide,by decide⟩,if_neg e,flt_half,of_half_t,if_pos rfl,if_neg (by decide),if_pos rfl,if_pos (show zeroV zeroIv=true from rfl)]
theorem div_has{X Z:Vx}{x:Rat}{q q2:Int}(hX:X.P)(hZ:Z.P)(off:Off0 Z)(i:InV X x)(k:InV Z x)(hq:1≤q)(hq2:1≤q2):InV (trimV (divV X Z q) q2) 1:=by
  have x0:x≠0:=by
    rcases off with o | o
    · have:=k.1;grind
    · have:=k.2;grind
  have h:=div_in hX hZ off hq i k
  rw [Rat.mul_inv_cancel x x0] at h
  exact trim_in2 (divV_p X Z q) hq2 h
theorem beg_q:(encTp 18 4598175219545276416 64).2=0∧hasV (encTp 18 4598175219545276416 64).1 (mkS 1 0)=true∧narrowB (encTp 18 4598175219545276416 64).1 64=true:=by
  have e:¬ fexp 4598175219545276416=2047:=by decide
  obtain ⟨h0,h1,h2,h3⟩:=flt_enc (x:=4598175219545276416) (p:=64) e (by decide) (by decide)
  have f1:OneF ⟨false,[1],-2⟩:=lit_f (by decide) (by decide) (by decide)
  have r1:(⟨false,[1],-2⟩:Dx).rv=1/4:=by rw [lit_rv,p2_v.2.2.2];decide +kernel
  rw [flt_quarter] at h0 h1 h2 h3
  obtain ⟨S,C,t,en,two,_⟩|⟨en,_⟩:=nearT_ok (r:=⟨false,[1],-2⟩) f1.p (by rw [r1];decide +kernel) (by rw [r1];decide +kernel) (p:=64+8) (by decide) (by decide) (p':=8) (by decide) (by decide)
  rotate_left
  · exfalso
    rw [ofTp,tur_quarter,if_pos rfl,en,if_neg (by decide)] at h0
    cases h0
  have eo:ofTp ⟨false,[1],-2⟩ (64+8)=((S,C),0):=by
    rw [ofTp,tur_quarter,if_pos rfl,en,if_pos rfl];rfl
  obtain ⟨q1,q2⟩:=near_seqs f1.p (by rw [r1];decide +kernel) (by rw [r1];decide +kernel) (p:=64+8) (by decide) (by decide) en
  rw [r1] at q1 q2
  obtain ⟨x,i,k⟩:=shared (q1.near qp_like) q2
  have off:Off0 C:=.inl (by have:=two.c0;grind)
  have z:=off_zeroV two.c.p off
  rw [eo] at h3
  rw [encTp,if_pos ⟨rfl,by decide,by decide⟩,if_neg e,flt_quarter,eo,if_pos rfl,if_neg (by decide),if_pos rfl,if_neg (by rw [z];simp)]
  rcases h3 with ⟨h,_⟩|⟨_,_,h⟩
  · rw [z] at h;cases h
  · obtain ⟨a,b⟩:=encl_parts h
    refine ⟨rfl,hasV_of a one_fits ?_,b⟩
    rw [rv_int]
    exact div_has two.s.p two.c.p off i k (by decide) (by decide)
theorem sBg18_ok:SpecsOk Tryz.prog (sBg18 encTp (fun n=>mkS n 0) hasV sameV narrowB):=⟨tEp_ok,fInt_ok,gHas_ok,gSame_ok,gNarrow_ok,trivial⟩
theorem lBg18_ok:SpecOk Tryz.prog 14 wTrue :=
  specK_ok (envOk tysT_ok sBg18_ok) mixed Tryz.func14 rfl (by decide) (by decide) fun _=>⟨fun _=>none,0,by
    show execF _ _ _ _ _ (fun t=>t=bT true)
    refine (lBg18_vc encTp (fun n=>mkS n 0) hasV sameV narrowB _).mpr ⟨⟨by omega,by omega⟩,⟨by omega,by omega⟩,⟨by omega,by omega⟩,⟨by omega,by omega⟩,⟨by omega,by omega⟩,?_⟩
    have z:(⟨⟨false,[],0⟩,⟨false,[],0⟩⟩:Vx)=zeroIv:=rfl
    rw [beg_s.1,beg_s.2,beg_c,z,sameV_refl,beg_t,beg_q.1,beg_q.2.1,beg_q.2.2]
    rfl⟩
theorem sEn18_ok:SpecsOk Tryz.prog (sEn18 encTp encU isPi isPi sameV enclB):=⟨tEp_ok,hEu_ok,tIs_ok,hIs_ok,lBg18_ok,gSame_ok,hEncl_ok,trivial⟩
theorem enc18_all(f x p:Int):(encTp f x p).2=(encU f x p).2∧((encTp f x p).2≠0→(encTp f x p).1=zeroIv)∧((encTp f x p).2=0→(encU f x p).1.Sm 34359738368∧enclB (encTp f x p).1 (encU f x p).1 p=true):=by
  by_cases c:isPi f=true∧8≤p∧p≤2048
  rotate_left
  · rw [encTp,encU,if_neg c,if_neg c];exact ⟨rfl,fun _=>rfl,fun h=>by cases h⟩
  by_cases e:fexp x=2047
  · rw [encTp,encU,if_pos c,if_pos c,if_pos e,if_pos e];exact ⟨rfl,fun _=>rfl,fun h=>by cases h⟩
  obtain ⟨h0,h1,h2,h3⟩:=flt_enc e c.2.1 c.2.2
  obtain ⟨a,b⟩:=bothU_ok (fltD_p x) c.2.1 c.2.2
  rw [encTp,encU,if_pos c,if_pos c,if_neg e,if_neg e,if_pos h0]
  by_cases f6:f=16
  · rw [if_pos f6,if_neg (by omega),if_neg (by omega)]
    exact ⟨rfl,fun h=>absurd rfl h,fun _=>⟨a.s.mono (by omega),h1⟩⟩
  by_cases f7:f=17
  · rw [if_neg f6,if_pos f7,if_pos f7]
    exact ⟨rfl,fun h=>absurd rfl h,fun _=>⟨b.s.mono (by omega),h2⟩⟩
  have f8:f=18:=by
    have h:=c.1
    unfold isPi at h
    rw [Bool.and_eq_true] at h
    have:=leI_true.1 h.1
    have:=leI_true.1 h.2
    omega
  rw [if_neg f6,if_neg f7,if_neg f7,if_pos f8]
  rcases h3 with ⟨z,w⟩|⟨z,w,h⟩
  · rw [if_pos z,if_pos w];exact ⟨rfl,fun _=>rfl,fun h=>by cases h⟩
  · rw [if_neg (by rw [z];simp),if_neg (by rw [w];simp)]
    exact ⟨rfl,fun h=>absurd rfl h,fun _=>⟨(divV_sm a.p b.p a.s b.s (by omega) (by omega)).mono (by omega),h⟩⟩
def lEn18:Spec:=specK [.i .u8,.i .u64,.i .i64] fun (_ x _:Int)=>(some (Word x),bT true)
theorem lEn18_ok:SpecOk Tryz.prog 3 lEn18 :=
  specK_ok (envOk tysT_ok sEn18_ok) mixed Tryz.func3 rfl (by decide) (by decide) fun (f:Int) _ (x:Int) _ (p:Int) _ hp=>⟨fun _=>none,0,by
    have hw:Word x:=hp
    show execF _ _ _ _ _ (fun t=>t=bT true)
    obtain ⟨h1,h2,h3⟩:=enc18_all f x p
    have z:(⟨⟨false,[],0⟩,⟨false,[],0⟩⟩:Vx)=zeroIv:=rfl
    refine (lEn18_vc f x p encTp encU isPi isPi sameV enclB _).mpr ⟨hw,hw,br_intro (fun h=>?_) fun _=>br_intro (fun h=>?_) fun _=>br_intro (fun h=>?_) fun h=>?_⟩
    · exfalso;revert h;cases isPi f<;>simp
    · exact absurd h1 (neI_true.1 h)
    · rw [h2 (neI_true.1 h),z,sameV_refl]
    · obtain ⟨s,k⟩:=h3 (neI_false.1 h)
      exact ⟨s,by rw [k]⟩⟩
theorem tur_sm{x:Dx}(hx:0≤x.m):(turR x).2.1.Sm 131072:=by
  by_cases h:(turR x).2.2=0
  · exact (tur_lft hx h).1.b.sm (by omega)
  · unfold turR at h ⊢
    split at h
    · rename_i h1
      rw [if_pos h1]
      split at h
      · exact absurd rfl h
      · rename_i h2;rw [if_neg h2];exact zero_sm.1
    · rename_i h1;rw [if_neg h1];exact zero_sm.1
theorem sBt18_ok:SpecsOk Tryz.prog (sBt18 bothTp bothU turR farB sameV enclB):=⟨fCopy_ok,tBp_ok,hBu_ok,hTurns_ok,lBg18_ok,fSame_ok,hFar_ok,gSame_ok,hEncl_ok,trivial⟩
theorem bothU_sm{x:Dx}(hx:0≤x.m)(p:Int):(bothU x p).1.1.Sm 34359738368∧(bothU x p).1.2.Sm 34359738368:=by
  by_cases c:8≤p∧p≤2048
  · obtain ⟨a,b⟩:=bothU_ok hx c.1 c.2
    exact ⟨a.s.mono (by omega),b.s.mono (by omega)⟩
  · rw [bothU,if_neg c];exact ⟨zero_sm,zero_sm⟩
def lBt18:Spec:=specK [.d,.i .i64] fun (_:Dx) (_:Int)=>(none,bT true)
theorem lBt18_ok:SpecOk Tryz.prog 6 lBt18 :=
  specK_ok (envOk tysT_ok sBt18_ok) mixed Tryz.func6 rfl (by decide) (by decide) fun (x:Dx) hw (p:Int) _ _=>⟨fun _=>none,0,by
    have hx:=Dx.Wf.m0 hw
    show execF _ _ _ _ _ (fun t=>t=bT true)
    obtain ⟨h1,h2,h3⟩:=both18 hx p
    obtain ⟨s1,s2⟩:=bothU_sm hx p
    have z:(⟨⟨false,[],0⟩,⟨false,[],0⟩⟩:Vx)=zeroIv:=rfl
    have fin:br (neI (bothTp x p).2 0) (br (sameV (bothTp x p).1.1 zeroIv) (bT (sameV (bothTp x p).1.2 zeroIv)=bT true) (bT false=bT true)) ((bothU x p).1.1.Sm 34359738368∧br (enclB (bothTp x p).1.1 (bothU x p).1.1 p) ((bothU x p).1.2.Sm 34359738368∧bT (enclB (bothTp x p).1.2 (bothU x p).1.2 p)=bT true) (bT false=bT true)):=by
      refine br_intro (fun h=>?_) fun h=>?_
      · rw [h2 (neI_true.1 h),sameV_refl];exact rfl
      · obtain ⟨a,b⟩:=h3 (neI_false.1 h)
        rw [a,b];exact ⟨s1,s2,rfl⟩
    refine (lBt18_vc x p bothTp bothU turR farB sameV enclB _).mpr (br_intro (fun h=>by rw [sameD_refl2] at h;cases h) fun _=>br_intro (fun h=>?_) fun _=>fin)
    rcases h1 with h1 | ⟨k1,k2,k3⟩
    · exact absurd h1 (neI_true.1 h)
    · rw [k1,k3]
      refine br_intro (fun h=>absurd rfl (neI_true.1 h)) fun _=>br_intro (fun h=>absurd k2 (neI_true.1 h)) fun _=>⟨tur_sm hx,fin⟩⟩
end Go.Proofs.YtcgjbmbdkpapdaaGreatDoor
namespace Go.Proofs.YtcgjbmbdkpapdaaGreatDoor
open Go.RowKit Go.ChangeShapes Go.WideShapes Go.Deep
set_option maxRecDepth 100000
def C0(W:World):Base:=⟨W.heap.size,fun _=>False,0⟩
section
variable {H:Type} {enc:TypeId×Value→H} {W:World} {base fuel:Nat} {s:Value} {x:DataW H×List MemPlace}
theorem open_words(hv:Cell.okWide Tryz.prog W .any base 25 s)(h:DataW.trod enc Tryz.prog W 0 (fun _=>true) true fuel 25 [s]=some x)
    (hw:(x.1.weights Tryz.prog 25).all (·≤reachBytes)=true) (hlt:∀ p∈x.2,p.block<W.heap.size):∃ xs,Rep (C0 W) noBox W s (.words false xs):=by
  rcases open_ints Tryz.underlying25 Tryz.underlying23 (by kernel_rfl) h with ⟨e,rfl⟩|⟨a,len,cap,zs,e,_,hl,hm,hz,rfl,hc,hwf⟩
  · cases e
    exact ⟨[],.words ⟨none,0,rfl,Nat.le_refl _,⟨by omega,by simp⟩,Words.nil,fun _=>rfl,fun h=>absurd h (by simp)⟩⟩
  · cases e
    rw [if_pos rfl] at hz
    obtain ⟨_,_,_,hspot,_⟩:len≤cap∧(cap:Int)≤IntKind.i64.max∧W.has Tryz.prog .any base a 23 cap:=by
      simpa [Cell.okWide,Cell.ok,Tryz.underlying25] using hv
    obtain ⟨g,o,spot⟩:=a
    simp only at hspot;subst hspot
    have hb8:Tryz.prog.bytesOf 23=8:=by kernel_rfl
    have hwt:(len+(cap-len))*8≤reachBytes:=by
      simp only [DataW.weights,Tryz.underlying25,List.all_cons,Bool.and_eq_true,decide_eq_true_eq,lits,List.length_map,List.length_take,List.length_drop,hz,hb8] at hw
      have:=hw.1
      rwa [Nat.min_eq_left hl] at this
    have hr:reachBytes=140737488351232:=rfl
    rw [hr] at hwt
    have hwords:Words zs:=fun n hn=>by
      have:=hwf n hn
      simp only [Lit.wf,Bool.and_eq_true,decide_eq_true_eq] at this
      have h1:IntKind.u64.min=0:=rfl
      have h2:IntKind.u64.max=18446744073709551615:=rfl
      rw [h1,h2] at this
      exact ⟨by omega,by omega⟩
    have hlen:(zs.take len).length=len:=by rw [List.length_take];omega
    refine ⟨zs.take len,.words ⟨_,cap,by rw [hlen],by omega,⟨by simp [maxLen] at hm;omega,by omega⟩,hwords.take _,by simp,fun hp=>⟨g,o,rfl,⟨⟨by simp [noBox],fun hx=>hx.elim⟩,by simp⟩,?_,fun j hj=>?_⟩⟩⟩
    · exact World.block_lt_of_cell? W _ (hc 0 (by omega))
    · have hj:j<len:=by omega
      have:=hc j (by omega)
      rw [nth_take hj]
      rw [show (⟨g,o,none⟩:Addr).add j=⟨g,o+j,none⟩ from by simp [Addr.add]] at this
      exact this
theorem open_dy{cs:List Value}(hok:∀ c,cs[1]?=some c→Cell.okWide Tryz.prog W .any base 25 c)(h:DataW.trod enc Tryz.prog W 0 (fun _=>true) true fuel 27 cs=some x)
    (hw:(x.1.weights Tryz.prog 27).all (·≤reachBytes)=true) (hlt:∀ p∈x.2,p.block<W.heap.size):∃ d:Dx,RepL (C0 W) noBox W cs (dyL false d):=by
  obtain ⟨y0,y1,y2,n,rfl,hl,h0,h1,h2⟩:=trod_struct3 Tryz.underlying27 h
  rw [show Tryz.prog.cellsOf 27=3 by kernel_rfl] at hl
  match cs,hl with
  | [c0,c1,c2],_ =>
    obtain ⟨b,e0,rfl⟩:=DataW.trod_bool Tryz.underlying4 h0
    obtain ⟨k,e2,rfl,hk⟩:=DataW.trod_int Tryz.underlying3 h2
    rw [show Tryz.prog.cellsOf 4=1 by kernel_rfl] at e0
    rw [show Tryz.prog.cellsOf 3=1 by kernel_rfl] at e2
    simp at e0 e2
    subst e0;subst e2
    simp only [show Tryz.prog.cellsOf 25=1 by kernel_rfl] at h1
    simp only [DataW.weights,Tryz.underlying27,DataW.weightsEach,List.map_cons,List.map_nil,List.all_append,Bool.and_eq_true] at hw
    obtain ⟨xs,hxs⟩:=open_words (hok c1 rfl) (by simpa using h1) hw.2.1 (fun p hp=>hlt p (by simp [hp]))
    exact ⟨⟨b,xs,k⟩,Rep.bool b,hxs,Rep.int _ k,trivial⟩
theorem arg_d{v:Value}{d:DataW H}{ps:List MemPlace}(hv:Value.okWide Tryz.prog W .any base 27 v)(h:DataW.Trod enc Tryz.prog W 0 (fun _=>true) true 27 v d ps)
    (hw:(d.weights Tryz.prog 27).all (·≤reachBytes)=true) (hlt:∀ p∈ps,p.block<W.heap.size):∃ x:Dx,RepS (C0 W) noBox W v (.agg (dyL false x)):=by
  simp only [Value.okWide,Tryz.underlying27] at hv
  obtain ⟨cs,rfl,hsz,ts,hts,_,hrow⟩:=hv
  rw [show Tryz.prog.cellTypes Tryz.prog.depth 27=some [4,25,3] by kernel_rfl] at hts
  cases hts
  obtain ⟨fuel,h⟩:=h
  obtain ⟨x,hx⟩:=open_dy (x:=(d,ps)) (base:=base) (fun c hc=>by
    obtain ⟨u,hu,hok⟩:=hrow 1 c (by rw [←Array.getElem?_toList];exact hc)
    cases hu;exact hok) h hw hlt
  exact ⟨x,cs.toList,rfl,hx⟩
theorem arg_v{v:Value}{d:DataW H}{ps:List MemPlace}(hv:Value.okWide Tryz.prog W .any base 29 v)(h:DataW.Trod enc Tryz.prog W 0 (fun _=>true) true 29 v d ps)
    (hw:(d.weights Tryz.prog 29).all (·≤reachBytes)=true) (hlt:∀ p∈ps,p.block<W.heap.size):∃ x:Vx,RepS (C0 W) noBox W v (.agg (ivL false x)):=by
  simp only [Value.okWide,Tryz.underlying29] at hv
  obtain ⟨cs,rfl,hsz,ts,hts,_,hrow⟩:=hv
  rw [show Tryz.prog.cellTypes Tryz.prog.depth 29=some [4,25,3,4,25,3] by kernel_rfl] at hts
  cases hts
  rw [show Tryz.prog.cellsOf 29=6 by kernel_rfl] at hsz
  obtain ⟨fuel,h⟩:=h
  obtain ⟨cs⟩:=cs
  match cs,hsz with
  | [c0,c1,c2,c3,c4,c5],_ =>
    obtain ⟨y0,y1,n,e,_,h0,h1⟩:=trod_struct2 Tryz.underlying29 h
    cases e
    simp only [show Tryz.prog.cellsOf 27=3 by kernel_rfl] at h0 h1
    simp only [DataW.weights,Tryz.underlying29,DataW.weightsEach,List.map_cons,List.map_nil,List.all_append,Bool.and_eq_true] at hw
    obtain ⟨x,hx⟩:=open_dy (cs:=[c0,c1,c2]) (base:=base) (fun c hc=>by
      obtain ⟨u,hu,hok⟩:=hrow 1 c hc
      cases hu;exact hok) h0 hw.1 (fun p hp=>hlt p (by simp [hp]))
    obtain ⟨y,hy⟩:=open_dy (cs:=[c3,c4,c5]) (base:=base) (fun c hc=>by
      obtain ⟨u,hu,hok⟩:=hrow 4 c hc
      cases hu;exact hok) h1 hw.2.1 (fun p hp=>hlt p (by simp [hp]))
    obtain ⟨a1,a2,a3,_⟩:=hx
    obtain ⟨b1,b2,b3,_⟩:=hy
    exact ⟨⟨x,y⟩,[c0,c1,c2,c3,c4,c5],rfl,a1,a2,a3,b1,b2,b3,trivial⟩
def Kd:Ak→TypeId→Prop
  | .b,t=>t=4
  | .i q,t=>Tryz.prog.underlying t=some (.int q)
  | .w,_=>False
  | .fx,_=>False
  | .p,_=>False
  | .d,t=>t=27
  | .v,t=>t=29
def Kds:List Ak→List TypeId→Prop
  | [],[]=>True
  | k :: ks,t :: ts=>Kd k t∧Kds ks ts
  | _,_=>False
def okArg:(k:Ak)→k.T→Prop
  | .i q,n=>q.min≤n∧n≤q.max
  | _,_=>True
theorem arg_k{k:Ak}{t:TypeId}(hk:Kd k t){v:Value}{d:DataW H}{ps:List MemPlace}(hv:Value.okWide Tryz.prog W .any base t v)(h:DataW.Trod enc Tryz.prog W 0 (fun _=>true) true t v d ps)
    (hw:(d.weights Tryz.prog t).all (·≤reachBytes)=true) (hlt:∀ p∈ps,p.block<W.heap.size):∃ x:k.T,RepS (C0 W) noBox W v (k.enc x)∧okArg k x:=by
  cases k with
  | b =>
    obtain rfl:t=4:=hk
    obtain ⟨b,rfl⟩:=okWide_bool Tryz.underlying4 hv
    exact ⟨b,Rep.bool b,trivial⟩
  | i q =>
    obtain ⟨n,rfl⟩:=okWide_int hk hv
    refine ⟨n,Rep.int q n,(show q.min≤n∧n≤q.max from ?_)⟩
    have hk:Tryz.prog.underlying t=some (.int q):=hk
    simpa [Value.okWide,Cell.okWide,Cell.ok,hk,IntKind.has] using hv
  | w=>exact hk.elim
  | fx=>exact hk.elim
  | p=>exact hk.elim
  | d =>
    obtain rfl:t=27:=hk
    obtain ⟨x,hx⟩:=arg_d hv h hw hlt;exact ⟨x,hx,trivial⟩
  | v =>
    obtain rfl:t=29:=hk
    obtain ⟨x,hx⟩:=arg_v hv h hw hlt;exact ⟨x,hx,trivial⟩
theorem dec_enc(k:Ak)(x:k.T):k.dec (k.enc x)=some x:=by
  cases k with
  | i q=>cases q<;>rfl
  | _=>rfl
def AllTrue:(ks:List Ak)→AFun ks→Prop
  | [],g=>(match g.1 with | none=>True | some p=>p)∧g.2 = .sv (.one (.bool true))
  | k :: ks,g=>∀ x:k.T,okArg k x→AllTrue ks (g x)
theorem args_ok:∀ {ks:List Ak} {ts:List TypeId} {vs:List Value} {ds:List (DataW H)} {ps:List MemPlace},Kds ks ts→(∀ (j:Nat) t v,ts[j]?=some t→vs[j]?=some v→Value.okWide Tryz.prog W .any base t v) →
    DataW.TrodAll enc Tryz.prog W 0 (fun _=>true) true ts vs ds ps→(DataW.weightsEach Tryz.prog ts ds).all (·≤reachBytes)=true→(∀ p∈ps,p.block<W.heap.size) →
    ∃ l,RepSs (C0 W) noBox W vs l∧∀ g,AllTrue ks g→(match (specK ks g l).1 with | none=>True | some p=>p)∧(specK ks g l).2 = .sv (.one (.bool true))
  | [],[],vs,ds,ps,_,_,h,_,_=>by
    obtain ⟨rfl,rfl,rfl⟩:=trodAll_nil h
    exact ⟨[],trivial,fun g hg=>hg⟩
  | [],_ :: _,_,_,_,hk,_,_,_,_=>hk.elim
  | _ :: _,[],_,_,_,hk,_,_,_,_=>hk.elim
  | k :: ks,t :: ts,vs,ds,ps,hk,hv,h,hw,hlt=>by
    obtain ⟨v,vs1,d,ds1,a,b,rfl,rfl,rfl,h1,h2⟩:=trodAll_cons h
    simp only [DataW.weightsEach,List.all_append,Bool.and_eq_true] at hw
    obtain ⟨x,hx,hox⟩:=arg_k hk.1 (hv 0 t v rfl rfl) h1 hw.1 (fun p hp=>hlt p (by simp [hp]))
    obtain ⟨l,hl,hs⟩:=args_ok hk.2 (fun j t v ht hv'=>hv (j+1) t v ht hv') h2 hw.2 (fun p hp=>hlt p (by simp [hp]))
    refine ⟨k.enc x :: l,⟨hx,hl⟩,fun g hg=>?_⟩
    have e:specK (k :: ks) g (k.enc x :: l)=(match k.dec (k.enc x) with | some x=>specK ks (g x) l | none=>noSpec):=rfl
    rw [e,dec_enc]
    exact hs (g x) (hg x hox)
theorem law_calls{f:FuncId}{ks:List Ak}{g:AFun ks}(hs:SpecOk Tryz.prog f (specK ks g))(hg:AllTrue ks g){ts:List TypeId}{args:Array Value}{ds:List (DataW H)}{ps:List MemPlace}(hT:Tab W)(hk:Kds ks ts)
    (hv:∀ (j:Nat) t v,ts[j]?=some t→args.toList[j]?=some v→Value.okWide Tryz.prog W .any base t v) (h:DataW.TrodAll enc Tryz.prog W 0 (fun _=>true) true ts args.toList ds ps)
    (hw:(DataW.weightsEach Tryz.prog ts ds).all (·≤reachBytes)=true) (hlt:∀ p∈ps,p.block<W.heap.size) :
    Calls Tryz.prog f args W fun e W'=>e = .returned (.bool true)∧Below W.heap.size W W':=by
  obtain ⟨l,hl,hsp⟩:=args_ok hk hv h hw hlt
  have:=hs.2 (C0 W) W args.toList l rfl (fun g hg=>hg.elim) hT hl (hsp g hg).1
  rw [(hsp g hg).2] at this
  refine this.mono ?_
  rintro e w' ⟨v,rfl,hr,hb⟩
  obtain rfl:=rep_bool (A:=noBox) hr
  exact ⟨rfl,hb⟩
theorem trodAll_below{W':World}(hb:Below W.heap.size W W')(hl:laidOutB Tryz.prog=true):∀ {ts:List TypeId} {vs:List Value} {ds:List (DataW H)} {ps:List MemPlace},(∀ t∈ts,Tryz.prog.readableRec t=true∧t<Tryz.prog.types.size) →
    DataW.TrodAll enc Tryz.prog W 0 (fun _=>true) true ts vs ds ps→(∀ p∈ps,p.block<W.heap.size)→DataW.TrodAll enc Tryz.prog W' 0 (fun b=>decide (b<W.heap.size)) true ts vs ds ps
  | [],vs,ds,ps,_,h,_=>by
    obtain ⟨rfl,rfl,rfl⟩:=trodAll_nil h
    exact trodAll_mk0
  | t :: ts,vs,ds,ps,ht,h,hlt=>by
    obtain ⟨v,vs1,d,ds1,a,b,rfl,rfl,rfl,h1,h2⟩:=trodAll_cons h
    exact ⟨a,b,Below.trod hl (ht t (by simp)).1 (ht t (by simp)).2 h1 hb (fun p hp=>hlt p (by simp [hp])),trodAll_below hb hl (fun t h=>ht t (by simp [h])) h2 (fun p hp=>hlt p (by simp [hp])),rfl⟩
theorem law_post{fn:Func}{s:ChangeSpec}(hl:laidOutB Tryz.prog=true)(hres:fn.resultTypes = #[4])(hvars:s.vars = [])(ht:∀ t∈fn.params.toList,Tryz.prog.readableRec t=true∧t<Tryz.prog.types.size)
    {args:Array Value} {ds gs:List (DataW H)} {before:List MemPlace} (hspec:s.fn H (ds ++ gs) = { results:=[.lit (.bool true)],args:=ds })
    (hW:DataW.Whole enc Tryz.prog fn.params.toList s.vars false W args.toList ds gs before) {W':World} (hb:Below W.heap.size W W') :
    s.post enc Tryz.prog fn false true false false W args (.bool true) W':=by
  have hlt:=hW.lt
  have hW':=hW
  obtain ⟨p,q,hA,hV,rfl,hfz,hnd⟩:=hW
  rw [hvars] at hV
  obtain ⟨rfl,rfl⟩:=trodVars_none hV
  refine ⟨ds,[],_,[],p,[],hW',?_,?_,?_,hb.frame _,fun h=>by cases h⟩
  · rw [hspec,hres]
    exact trodAll_mk1 (shut_bool Tryz.underlying4 _)
  · rw [hspec]
    exact trodAll_below hb hl ht hA (fun x hx=>hlt x (by simp [hx]))
  · rw [hspec,hvars];rfl
end
theorem law_contract{H:Type}{enc:TypeId×Value→H}{f:FuncId}{fn:Func}{ks:List Ak}{g:AFun ks}{s:ChangeSpec}(hs:SpecOk Tryz.prog f (specK ks g))(hg:AllTrue ks g)(hl:laidOutB Tryz.prog=true)(hres:fn.resultTypes = #[4])(hvars:s.vars = [])
    (hvt:s.plain.varTypes Tryz.prog = []) (ht:∀ t∈fn.params.toList,Tryz.prog.readableRec t=true∧t<Tryz.prog.types.size) (hk:Kds ks fn.params.toList) (hspec:∀ ds:List (DataW H),ds.length=fn.params.toList.length→s.fn H ds = { results:=[.lit (.bool true)],args:=ds })
    {W:World} {base:Nat} {args:Array Value} {ds gs:List (DataW H)} {before:List MemPlace} (hval:∀ (j:Nat) t v,fn.params[j]?=some t→args[j]?=some v→Value.okWide Tryz.prog W .any base t v)
    (hW:DataW.Whole enc Tryz.prog fn.params.toList s.vars false W args.toList ds gs before) (hw:(DataW.weightsEach Tryz.prog (fn.params.toList ++ s.plain.varTypes Tryz.prog) (ds ++ gs)).all (·≤reachBytes)=true) (hT:Tab W) :
    Calls Tryz.prog f args W fun e W'=>∃ v,e = .returned v∧s.post enc Tryz.prog fn false true false false W args v W':=by
  have hlt:=hW.lt
  have hW':=hW
  obtain ⟨p,q,hA,hV,rfl,hfz,hnd⟩:=hW
  rw [hvars] at hV
  obtain ⟨rfl,rfl⟩:=trodVars_none hV
  rw [hvt,List.append_nil,List.append_nil] at hw
  refine (law_calls hs hg hT hk (fun j t v h1 h2=>hval j t v (by rw [←Array.getElem?_toList];exact h1) (by rw [←Array.getElem?_toList];exact h2)) hA hw (fun x hx=>hlt x (by simp [hx]))).mono ?_
  rintro e W' ⟨rfl,hb⟩
  exact ⟨_,rfl,law_post hl hres hvars ht (by rw [List.append_nil];exact hspec ds (trodAll_length hA).2) hW' hb⟩
theorem tab_of{W:World}{D:DataW Unit}(hD:∀ ys:List (DataW Unit×List MemPlace),D = .agg (ys.map (·.1))→∀ j,j<64→∃ y,ys[j]?=some y∧y.1 = .lit (.int .u8 (Lib.deBruijn64tab.getD j 0)))(hh:D.handleName?.isNone=true)
    (h : laidMetH Tryz.prog [("math/bits.deBruijn64tab", D)] W) : Tab W := by
  rw [MakeChecks.laidMetH_plain _ _ _ (by simp [hh])] at h
  obtain ⟨ps,⟨g0,t0,cs0,f0,p0,q0,hg0,ht0,hv0,hd0,_⟩,_,_⟩:=h
  obtain rfl := Option.some.inj ((show Tryz.prog.globalNamed "math/bits.deBruijn64tab" = some 0 by kernel_rfl).symm.trans hg0)
  obtain rfl:=Option.some.inj ((show (Tryz.prog.globals[0]?).map (·.type)=some 149 by kernel_rfl).symm.trans ht0)
  obtain ⟨xs,m1,_,hx1,hlen,hn3,hel⟩:=DataW.trod_array Tryz.underlying149 hd0
  intro j hj
  simp only [Prod.mk.injEq] at hx1
  obtain ⟨y,hy,hy1⟩:=hD xs hx1.1 j hj
  have hj':=hel j hj
  rw [hy,show Tryz.prog.cellsOf 5=1 by kernel_rfl] at hj'
  obtain ⟨k,e1,e2,_⟩:=DataW.trod_int Tryz.underlying5 hj'
  have hk:k=Lib.deBruijn64tab.getD j 0:=by
    rw [e2] at hy1;simpa using hy1
  subst hk
  have:=World.var?_cell hg0 hv0 j
  rw [this]
  rw [Nat.mul_one] at e1
  have e3:(cs0.toList.drop j)[0]?=some (.int .u8 (Lib.deBruijn64tab.getD j 0)):=by
    have:((cs0.toList.drop j).take 1)[0]?=some (.int .u8 (Lib.deBruijn64tab.getD j 0)):=by rw [e1];rfl
    rwa [List.getElem?_take,if_pos (by omega)] at this
  rw [List.getElem?_drop,Nat.add_zero] at e3
  simpa using e3
end Go.Proofs.YtcgjbmbdkpapdaaGreatDoor
