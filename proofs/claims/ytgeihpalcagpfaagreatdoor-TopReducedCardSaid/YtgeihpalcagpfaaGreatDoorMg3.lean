/-
Package series: Sum, of the terms of a sine.
The sums of a sine's terms in so many bits: how great they are, what they enclose. Plain.
How far a rounding lies from what is rounded; narrow intervals. Plain.
Numbers in so many bits with their error: package ulpref09.
Intervals as rational numbers: what is reckoned of what lies in them lies in the answer; of parts, within; with more bits, within. Plain.
Intervals as rational numbers, second part: quotients, roots; what the statements of ulplaw06 ask. Plain.
Whole parts, numbers from intervals, squares; what is few enough. Plain.
Package ulpref06: sums and products.
Package sincore.
Package ulpref13.
Sines and cosines: what the intervals enclose, how narrow they are, that they have room. Plain.
The whole number next to a number, its rest by 4; one form. Plain.
Package raw: powers of 2, the nearest whole number, its rest by 4.
The references' naturals (ulpref03): Div, plain part.
The references' naturals (ulpref03): Div.
The references' quotient of two numbers is the program's. Plain.
The references: whole numbers, quotients.
Symbolic execution, eighteenth part: words of functions that may write a box of their caller, told by patterns.
Sums of terms that fall by twelfths, in fixed point: inverse tangents, plain and hyperbolic. Plain.
The inverse tangents of 1 / n, plain and hyperbolic, in fixed point. Plain.
Sizes of the inverse tangents' sums; pi by Machin. Plain.
The document's inverse tangents of 1 / n in fixed point; its pi. Plain.
Package consts: the inverse tangents' terms: a closure that writes its maker's box; series.Sum with it.
Package consts: inverse, pi.
Pi: between which numbers it lies; how narrow its enclosures are. Plain.
Package consts: the table, what it encloses: pi.
Right angles taken away: plain.
Dyadic numbers: how low their last bit lies, how high their first. Plain.
-/
import Derived.Test.YtgeihpalcagpfaaGreatDoorMg2
import Derived.Test.YtgeihpalcagpfaaGreatDoorMg1
import Derived.Test.YtgeihpalcagpfaaGreatDoorMg0
namespace Go.Proofs.YtgeihpalcagpfaaGreatDoor
open Go.RowKit
def Tm(g:Fx→Int→Fx)(t:Fx):Nat→Fx
  | 0=>t
  | k+1=>g (Tm g t k) (k+1:Nat)
def Sm2(g:Fx→Int→Fx)(t:Fx)(b:Nat):Nat→Fx
  | 0=>⟨0,0⟩
  | k+1=>if k % 2=b then addF (Sm2 g t b k) (Tm g t k) else Sm2 g t b k
def findK(P:Nat→Bool):Nat→Nat→Nat
  | 0,k=>k
  | n+1,k=>match P k with | true=>k | false=>findK P n (k+1)
def stopK(g:Fx→Int→Fx)(t:Fx):Nat:=findK (fun k=>decide ((Tm g t k).a=0)) 1048576 1
def sumR(g:Fx→Int→Fx)(t:Fx)(b:Nat):Fx:=widerF (Sm2 g t b (stopK g t)) ((Tm g t (stopK g t)).e+4)
def SumOk(g:Fx→Int→Fx)(pr:Fx→Int→Prop)(t:Fx):Prop :=
  1≤stopK g t∧stopK g t≤1048577∧(Tm g t (stopK g t)).a=0∧(∀ k,1≤k→k<stopK g t→(Tm g t k).a≠0)∧(∀ k,k<stopK g t→pr (Tm g t k) (k+1:Nat)) ∧
    ∀ k,k≤stopK g t→((Tm g t k).Ok∧(Tm g t k).e≤549755813888)∧(Sm2 g t 0 k).Ok∧(Sm2 g t 1 k).Ok
def wAlt(g:Int→Fx→Int→Fx→Int→Fx)(pr:Int→Fx→Int→Fx→Int→Prop):Spec:=fun l=>match l with
  | [.agg [.words false xs,.int .u64 e],.one (.int .i64 k),.one (.ref [.int .i64 f]),.one (.ref [.words false ys,.int .u64 d]),.one (.ref [.int .i64 w])] =>
    (some (xs=ws (val xs)∧ys=ws (val ys)∧pr f ⟨val ys,d⟩ w ⟨val xs,e⟩ k),fxT (g f ⟨val ys,d⟩ w ⟨val xs,e⟩ k))
  | _=>noSpec
def stepA(f:Int)(sq:Fx)(w:Int)(t:Fx)(k:Int):Fx:=shortF (shortF (mulF t sq w) (f+2*(k-1))) (f+2*(k-1)+1)
theorem cAlt_vc(f k w d e:Int)(xs ys:List Int)(Q:Tv→Prop):execF ⟨tys3,sSer⟩ (fun _=>none) 0 Tryz.f123 [.agg [.words false xs,.int .u64 e],.one (.int .i64 k),.one (.ref [.int .i64 f]),.one (.ref [.words false ys,.int .u64 d]),.one (.ref [.int .i64 w])] Q=(inR (k-1)∧inR ((2:Int)*(k-1))∧inR (f+2*(k-1))∧(Fw.Ok (Fw.mk xs e)∧Fw.Ok (Fw.mk ys d)∧(0:Int)≤w∧w≤16777216∧(mulF (Fw.f (Fw.mk xs e)) (Fw.f (Fw.mk ys d)) w).e≤1099511627776)∧((0:Int)≤(fw (mulF (Fw.f (Fw.mk xs e)) (Fw.f (Fw.mk ys d)) w)).e∧(fw (mulF (Fw.f (Fw.mk xs e)) (Fw.f (Fw.mk ys d)) w)).e≤1099511627776∧(0:Int)<IntKind.wrap IntKind.u64 (f+2*(k-1))∧IntKind.wrap IntKind.u64 (f+2*(k-1))<18446744073709551616)∧((0:Int)≤(fw (shortF (Fw.f (fw (mulF (Fw.f (Fw.mk xs e)) (Fw.f (Fw.mk ys d)) w))) (IntKind.wrap IntKind.u64 (f+2*(k-1))))).e∧(fw (shortF (Fw.f (fw (mulF (Fw.f (Fw.mk xs e)) (Fw.f (Fw.mk ys d)) w))) (IntKind.wrap IntKind.u64 (f+2*(k-1))))).e≤1099511627776∧(0:Int)<IntKind.wrap IntKind.u64 (IntKind.wrap IntKind.u64 (f+2*(k-1))+1)∧IntKind.wrap IntKind.u64 (IntKind.wrap IntKind.u64 (f+2*(k-1))+1)<18446744073709551616)∧Q (Tv.sv (Sv.agg (fwL false (fw (shortF (Fw.f (fw (shortF (Fw.f (fw (mulF (Fw.f (Fw.mk xs e)) (Fw.f (Fw.mk ys d)) w))) (IntKind.wrap IntKind.u64 (f+2*(k-1)))))) (IntKind.wrap IntKind.u64 (IntKind.wrap IntKind.u64 (f+2*(k-1))+1)))))))):=by kernel_rfl
def preA(f:Int)(sq:Fx)(w:Int)(t:Fx)(k:Int):Prop:=t.Ok∧sq.Ok∧0≤w∧w≤16777216∧(mulF t sq w).e≤549755813888∧1≤k∧k≤1048577∧1≤f∧f≤2
theorem fx_ok{xs:List Int}{e:Int}(h:xs=ws (val xs))(k:Fx.Ok ⟨val xs,e⟩):Fw.Ok ⟨xs,e⟩:=by
  have:=k.w
  have e1:fw ⟨val xs,e⟩=⟨xs,e⟩:=by show (⟨ws (val xs),e⟩:Fw)=_;rw [←h]
  rwa [e1] at this
theorem mulF_e0{x y:Fx}{w:Int}(hx:x.Ok)(hy:y.Ok):0≤(mulF x y w).a∧0≤(mulF x y w).e:=by
  have m1:=Int.mul_nonneg hx.1 hy.1
  have p0:=two_pow_pos w.toNat
  have:=mulF_lo (k:=w.toNat) hx.1 hy.1 hx.2.2.1 hy.2.2.1
  exact ⟨Int.ediv_nonneg m1 (by omega),by show 0≤upI _ _-_;omega⟩
theorem shortF_e0{x:Fx}{d:Int}(ha:0≤x.a)(he:0≤x.e)(hd:0<d):0≤(shortF x d).a∧2≤(shortF x d).e∧(shortF x d).e≤x.e+2:=by
  have q0:=Int.ediv_nonneg he (show 0≤d by omega)
  have q1:=Int.ediv_le_self d he
  exact ⟨Int.ediv_nonneg ha (by omega),show 2≤x.e/d+2 by omega,show x.e/d+2≤x.e+2 by omega⟩
theorem cAlt_ok:SpecOk Tryz.prog 123 (wAlt stepA preA) :=
  specOk_pat (envOk tys3_ok sSer_ok) mixed Tryz.func123 rfl (by decide) 5 (by decide) fun l p t hwf e hp=>by
    unfold wAlt at e
    split at e
    · rename_i xs e0 k f ys d w
      cases e
      obtain ⟨hx,hy,ot,os,w0,w1,me,k0,k1,f0,f1⟩:xs=ws (val xs)∧ys=ws (val ys)∧preA f ⟨val ys,d⟩ w ⟨val xs,e0⟩ k:=hp
      have z:=mulF_e0 (w:=w) ot os
      have z1:=shortF_e0 (d:=f+2*(k-1)) z.1 z.2 (by omega)
      refine ⟨Nat.le_refl 5,fun _=>none,0,(cAlt_vc f k w d e0 xs ys _).mpr ?_⟩
      have e1:IntKind.u64.wrap (f+2*(k-1))=f+2*(k-1):=wrap_w ⟨by omega,by omega⟩
      have e2:IntKind.u64.wrap (f+2*(k-1)+1)=f+2*(k-1)+1:=wrap_w ⟨by omega,by omega⟩
      have e3:(fw (mulF ⟨val xs,e0⟩ ⟨val ys,d⟩ w)).f=mulF ⟨val xs,e0⟩ ⟨val ys,d⟩ w:=fw_f z.1
      have e4:(fw (shortF (mulF ⟨val xs,e0⟩ ⟨val ys,d⟩ w) (f+2*(k-1)))).f=shortF (mulF ⟨val xs,e0⟩ ⟨val ys,d⟩ w) (f+2*(k-1)):=fw_f z1.1
      have e5:∀ z:Fx,(fw z).e=z.e:=fun _=>rfl
      have e6:(Fw.mk xs e0).f=⟨val xs,e0⟩:=rfl
      have e7:(Fw.mk ys d).f=⟨val ys,d⟩:=rfl
      rw [e6,e7,e1,e2,e3,e4,e5,e5]
      exact ⟨⟨by omega,by omega⟩,⟨by omega,by omega⟩,⟨by omega,by omega⟩,⟨fx_ok hx ot,fx_ok hy os,w0,w1,by omega⟩,⟨z.2,by omega,by omega,by omega⟩,⟨by omega,by omega,by omega,by omega⟩,.inl rfl⟩
    · cases e;exact hp.elim
def tyFx2:TyRow:=⟨133,4,true,[.words true [],.int .u64 0,.words true [],.int .u64 0],.array 2 2 true⟩
def tys4:List TyRow:=tyFx2 :: tys3
theorem tys4_ok:RowsOk Tryz.prog tys4:=⟨by kernel_rfl,tys3_ok⟩
def sSmA(g:Int→Fx→Int→Fx→Int→Fx)(pr:Int→Fx→Int→Fx→Int→Prop):List (FuncId×Spec):=[(151,seAdd),(126,seWid),(123,wAlt g pr)]
def smK:LKeep:=⟨[1,4,5,6,7,8],[(1,2),(2,2),(4,4),(7,2)],10⟩
def clX(b o:Nat)(nw:Bool)(x:Fw):List (Nat×Nat×At):=[(b,o,.words nw x.xs),(b,o+1,.int .u64 x.e)]
def smSt(fn:At)(T S0 S1:Nat→Fx)(a:Nat×Bool×Bool):List (Nat×Tv)×List (Nat×Nat×At) :=
  ([(1,.sv (.one fn)),(4,.sv (.one (.ptr 1 0))),(5,.sv (.one (.ptr 2 0))),(6,.sv (.one (.ptr 4 0))),(7,.sv (.one (.ptr 7 0))),(8,iT (a.1:Nat))],
   [(1,0,.words true []),(1,1,.int .u64 0),(2,0,.words true []),(2,1,.int .u64 0)] ++ (clX 4 0 a.2.1 (fw (S0 a.1)) ++ (clX 4 2 a.2.2 (fw (S1 a.1)) ++ clX 7 0 false (fw (T a.1)))))
def altF(f:Int)(ys:List Int)(d w:Int):At:=.fn 123 [.ref [.int .i64 f],.ref [.words false ys,.int .u64 d],.ref [.int .i64 w]]
def smSt7(fn:At)(T S0 S1:Nat→Fx)(a:Nat×Bool×Bool):List (Nat×Tv)×List (Nat×Nat×At) :=
  ([(1,.sv (.one fn)),(4,.sv (.one (.ptr 1 0))),(5,.sv (.one (.ptr 2 0))),(6,.sv (.one (.ptr 4 0))),(7,.sv (.one (.ptr 7 0))),(8,iT (a.1:Nat))],
   [(1,0,.words true []),(1,1,.int .u64 0),(2,0,.words true []),(2,1,.int .u64 0)] ++ (clX 4 0 a.2.1 (fw (S0 (a.1+1))) ++ (clX 4 2 a.2.2 (fw (S1 (a.1+1))) ++ clX 7 0 false (fw (T a.1)))))
def smCut(fn:At)(T S0 S1:Nat→Fx)(K:Nat)(a:Nat×Bool×Bool)(n:Nat):Option LInv :=
  match Nat.beq 6 n with
  | true=>some (.cut smK (Nat×Bool×Bool) (smSt fn T S0 S1) (fun x=>x.1=a.1∧x.1<K))
  | false=>match Nat.beq 7 n with
    | true=>some (.cut smK (Nat×Bool×Bool) (smSt7 fn T S0 S1) (fun x=>x.1=a.1∧x.1<K))
    | false=>none
def smInv(fn:At)(T S0 S1:Nat→Fx)(K:Nat):Nat→Option LInv :=
  invAt 4 (.relI smK (Nat×Bool×Bool) (smSt fn T S0 S1) (fun a=>a.1≤K) (fun a=>K-a.1) (smCut fn T S0 S1 K))
theorem sumA_vc(g:Int→Fx→Int→Fx→Int→Fx)(pr:Int→Fx→Int→Fx→Int→Prop)(T S0 S1:Nat→Fx)(K:Nat)(t:Fw)(f d w:Int)(ys:List Int)(Q:Tv→Prop):execF ⟨tys4,sSmA g pr⟩ (smInv (altF f ys d w) T S0 S1 K) 0 Tryz.f121 [.agg (fwL false t),.one (altF f ys d w)] Q=(true=true∧(∃ (a:Nat×Bool×Bool),a.fst≤K∧Sg.mk [(1,Tv.sv (Sv.one (At.fn 123 [At.ref [At.int .i64 f],At.ref [At.words false ys,At.int .u64 d],At.ref [At.int .i64 w]]))),(4,Tv.sv (Sv.one (At.ptr ((0:Nat)+1) 0))),(5,Tv.sv (Sv.one (At.ptr ((0:Nat)+2) 0))),(6,Tv.sv (Sv.one (At.ptr ((3:Nat)+1) 0))),(7,Tv.sv (Sv.one (At.ptr ((6:Nat)+1) 0))),(8,iT 0)] [(1,0,At.words true []),(1,1,At.int .u64 0),(2,0,At.words true []),(2,1,At.int .u64 0),(4,0,At.words true []),(4,1,At.int .u64 0),(4,2,At.words true []),(4,3,At.int .u64 0),(7,0,At.words false t.xs),(7,1,At.int .u64 t.e)] 10=LKeep.at smK (smSt (altF f ys d w) T S0 S1 a))∧∀ (a:Nat×Bool×Bool),a.fst≤K→br (ltI 0 (↑(List.length (fw (T a.fst)).xs):Int)) (true=true∧∃ (x:Nat×Bool×Bool),(x.fst=a.fst∧x.fst<K)∧Sg.mk [(1,Tv.sv (Sv.one (At.fn 123 [At.ref [At.int .i64 f],At.ref [At.words false ys,At.int .u64 d],At.ref [At.int .i64 w]]))),(4,Tv.sv (Sv.one (At.ptr 1 0))),(5,Tv.sv (Sv.one (At.ptr 2 0))),(6,Tv.sv (Sv.one (At.ptr 4 0))),(7,Tv.sv (Sv.one (At.ptr 7 0))),(8,iT (↑a.fst:Int))] [(1,0,At.words true []),(1,1,At.int .u64 0),(2,0,At.words true []),(2,1,At.int .u64 0),(4,0,At.words a.snd.fst (fw (S0 a.fst)).xs),(4,1,At.int .u64 (fw (S0 a.fst)).e),(4,2,At.words a.snd.snd (fw (S1 a.fst)).xs),(4,3,At.int .u64 (fw (S1 a.fst)).e),(7,0,At.words false (fw (T a.fst)).xs),(7,1,At.int .u64 (fw (T a.fst)).e)] 10=LKeep.at smK (smSt (altF f ys d w) T S0 S1 x)) (br (eqI (↑a.fst:Int) 0) (true=true∧∃ (x:Nat×Bool×Bool),(x.fst=a.fst∧x.fst<K)∧Sg.mk [(1,Tv.sv (Sv.one (At.fn 123 [At.ref [At.int .i64 f],At.ref [At.words false ys,At.int .u64 d],At.ref [At.int .i64 w]]))),(4,Tv.sv (Sv.one (At.ptr 1 0))),(5,Tv.sv (Sv.one (At.ptr 2 0))),(6,Tv.sv (Sv.one (At.ptr 4 0))),(7,Tv.sv (Sv.one (At.ptr 7 0))),(8,iT (↑a.fst:Int))] [(1,0,At.words true []),(1,1,At.int .u64 0),(2,0,At.words true []),(2,1,At.int .u64 0),(4,0,At.words a.snd.fst (fw (S0 a.fst)).xs),(4,1,At.int .u64 (fw (S0 a.fst)).e),(4,2,At.words a.snd.snd (fw (S1 a.fst)).xs),(4,3,At.int .u64 (fw (S1 a.fst)).e),(7,0,At.words false (fw (T a.fst)).xs),(7,1,At.int .u64 (fw (T a.fst)).e)] 10=LKeep.at smK (smSt (altF f ys d w) T S0 S1 x)) (((0:Int)≤0∧(0:Int)<(↑(2:Nat):Int))∧(Fw.Ok (fw (S0 a.fst))∧(0:Int)≤IntKind.wrap IntKind.u64 ((fw (T a.fst)).e+4)∧IntKind.wrap IntKind.u64 ((fw (T a.fst)).e+4)≤1099511627776∧(fw (S0 a.fst)).xs=ws (val (fw (S0 a.fst)).xs))∧((0:Int)≤1∧(1:Int)<(↑(2:Nat):Int))∧(Fw.Ok (fw (S1 a.fst))∧(0:Int)≤IntKind.wrap IntKind.u64 ((fw (T a.fst)).e+4)∧IntKind.wrap IntKind.u64 ((fw (T a.fst)).e+4)≤1099511627776∧(fw (S1 a.fst)).xs=ws (val (fw (S1 a.fst)).xs))∧true=true∧Q (Tv.tup [Sv.agg (fwL false (fw (widerF (Fw.f (fw (S0 a.fst))) (IntKind.wrap IntKind.u64 ((fw (T a.fst)).e+4))))),Sv.agg (fwL false (fw (widerF (Fw.f (fw (S1 a.fst))) (IntKind.wrap IntKind.u64 ((fw (T a.fst)).e+4)))))])))∧∀ (x:Nat×Bool×Bool),x.fst=a.fst∧x.fst<K→((2:Int)≠0∧(2:Int)≠0∧br (eqI (Int.tmod (↑x.fst:Int) 2) 0) (((0:Int)≤Int.tmod (↑x.fst:Int) 2∧Int.tmod (↑x.fst:Int) 2<(↑(2:Nat):Int))∧(Fw.Ok (fw (S0 x.fst))∧Fw.Ok (fw (T x.fst)))∧br (eqI (Int.tmod (↑x.fst:Int) 2) 0) (((0:Int)≤Int.tmod (↑x.fst:Int) 2∧Int.tmod (↑x.fst:Int) 2<(↑(2:Nat):Int))∧true=true∧true=true∧∃ (x_1:Nat×Bool×Bool),(x_1.fst=a.fst∧x_1.fst<K)∧Sg.mk [(1,Tv.sv (Sv.one (At.fn 123 [At.ref [At.int .i64 f],At.ref [At.words false ys,At.int .u64 d],At.ref [At.int .i64 w]]))),(4,Tv.sv (Sv.one (At.ptr 1 0))),(5,Tv.sv (Sv.one (At.ptr 2 0))),(6,Tv.sv (Sv.one (At.ptr 4 0))),(7,Tv.sv (Sv.one (At.ptr 7 0))),(8,iT (↑x.fst:Int))] [(1,0,At.words true []),(1,1,At.int .u64 0),(2,0,At.words true []),(2,1,At.int .u64 0),(4,0,At.words false (fw (addF (Fw.f (fw (S0 x.fst))) (Fw.f (fw (T x.fst))))).xs),(4,1,At.int .u64 (fw (addF (Fw.f (fw (S0 x.fst))) (Fw.f (fw (T x.fst))))).e),(4,2,At.words x.snd.snd (fw (S1 x.fst)).xs),(4,3,At.int .u64 (fw (S1 x.fst)).e),(7,0,At.words false (fw (T x.fst)).xs),(7,1,At.int .u64 (fw (T x.fst)).e)] 10=LKeep.at smK (smSt7 (altF f ys d w) T S0 S1 x_1)) (((0:Int)≤Int.tmod (↑x.fst:Int) 2∧Int.tmod (↑x.fst:Int) 2<(↑(2:Nat):Int))∧true=true∧true=true∧∃ (x_1:Nat×Bool×Bool),(x_1.fst=a.fst∧x_1.fst<K)∧Sg.mk [(1,Tv.sv (Sv.one (At.fn 123 [At.ref [At.int .i64 f],At.ref [At.words false ys,At.int .u64 d],At.ref [At.int .i64 w]]))),(4,Tv.sv (Sv.one (At.ptr 1 0))),(5,Tv.sv (Sv.one (At.ptr 2 0))),(6,Tv.sv (Sv.one (At.ptr 4 0))),(7,Tv.sv (Sv.one (At.ptr 7 0))),(8,iT (↑x.fst:Int))] [(1,0,At.words true []),(1,1,At.int .u64 0),(2,0,At.words true []),(2,1,At.int .u64 0),(4,0,At.words x.snd.fst (fw (S0 x.fst)).xs),(4,1,At.int .u64 (fw (S0 x.fst)).e),(4,2,At.words false (fw (addF (Fw.f (fw (S0 x.fst))) (Fw.f (fw (T x.fst))))).xs),(4,3,At.int .u64 (fw (addF (Fw.f (fw (S0 x.fst))) (Fw.f (fw (T x.fst))))).e),(7,0,At.words false (fw (T x.fst)).xs),(7,1,At.int .u64 (fw (T x.fst)).e)] 10=LKeep.at smK (smSt7 (altF f ys d w) T S0 S1 x_1))) (((0:Int)≤Int.tmod (↑x.fst:Int) 2∧Int.tmod (↑x.fst:Int) 2<(↑(2:Nat):Int))∧(Fw.Ok (fw (S1 x.fst))∧Fw.Ok (fw (T x.fst)))∧br (eqI (Int.tmod (↑x.fst:Int) 2) 0) (((0:Int)≤Int.tmod (↑x.fst:Int) 2∧Int.tmod (↑x.fst:Int) 2<(↑(2:Nat):Int))∧true=true∧true=true∧∃ (x_1:Nat×Bool×Bool),(x_1.fst=a.fst∧x_1.fst<K)∧Sg.mk [(1,Tv.sv (Sv.one (At.fn 123 [At.ref [At.int .i64 f],At.ref [At.words false ys,At.int .u64 d],At.ref [At.int .i64 w]]))),(4,Tv.sv (Sv.one (At.ptr 1 0))),(5,Tv.sv (Sv.one (At.ptr 2 0))),(6,Tv.sv (Sv.one (At.ptr 4 0))),(7,Tv.sv (Sv.one (At.ptr 7 0))),(8,iT (↑x.fst:Int))] [(1,0,At.words true []),(1,1,At.int .u64 0),(2,0,At.words true []),(2,1,At.int .u64 0),(4,0,At.words false (fw (addF (Fw.f (fw (S1 x.fst))) (Fw.f (fw (T x.fst))))).xs),(4,1,At.int .u64 (fw (addF (Fw.f (fw (S1 x.fst))) (Fw.f (fw (T x.fst))))).e),(4,2,At.words x.snd.snd (fw (S1 x.fst)).xs),(4,3,At.int .u64 (fw (S1 x.fst)).e),(7,0,At.words false (fw (T x.fst)).xs),(7,1,At.int .u64 (fw (T x.fst)).e)] 10=LKeep.at smK (smSt7 (altF f ys d w) T S0 S1 x_1)) (((0:Int)≤Int.tmod (↑x.fst:Int) 2∧Int.tmod (↑x.fst:Int) 2<(↑(2:Nat):Int))∧true=true∧true=true∧∃ (x_1:Nat×Bool×Bool),(x_1.fst=a.fst∧x_1.fst<K)∧Sg.mk [(1,Tv.sv (Sv.one (At.fn 123 [At.ref [At.int .i64 f],At.ref [At.words false ys,At.int .u64 d],At.ref [At.int .i64 w]]))),(4,Tv.sv (Sv.one (At.ptr 1 0))),(5,Tv.sv (Sv.one (At.ptr 2 0))),(6,Tv.sv (Sv.one (At.ptr 4 0))),(7,Tv.sv (Sv.one (At.ptr 7 0))),(8,iT (↑x.fst:Int))] [(1,0,At.words true []),(1,1,At.int .u64 0),(2,0,At.words true []),(2,1,At.int .u64 0),(4,0,At.words x.snd.fst (fw (S0 x.fst)).xs),(4,1,At.int .u64 (fw (S0 x.fst)).e),(4,2,At.words false (fw (addF (Fw.f (fw (S1 x.fst))) (Fw.f (fw (T x.fst))))).xs),(4,3,At.int .u64 (fw (addF (Fw.f (fw (S1 x.fst))) (Fw.f (fw (T x.fst))))).e),(7,0,At.words false (fw (T x.fst)).xs),(7,1,At.int .u64 (fw (T x.fst)).e)] 10=LKeep.at smK (smSt7 (altF f ys d w) T S0 S1 x_1))))∧∀ (x:Nat×Bool×Bool),x.fst=a.fst∧x.fst<K→inR ((↑x.fst:Int)+1)∧((fw (T x.fst)).xs=ws (val (fw (T x.fst)).xs)∧ys=ws (val ys)∧pr f (Fx.mk (val ys) d) w (Fx.mk (val (fw (T x.fst)).xs) (fw (T x.fst)).e) ((↑x.fst:Int)+1))∧inR ((↑x.fst:Int)+1)∧true=true∧∃ (a':Nat×Bool×Bool),a'.fst≤K∧Sg.mk [(1,Tv.sv (Sv.one (At.fn 123 [At.ref [At.int .i64 f],At.ref [At.words false ys,At.int .u64 d],At.ref [At.int .i64 w]]))),(4,Tv.sv (Sv.one (At.ptr 1 0))),(5,Tv.sv (Sv.one (At.ptr 2 0))),(6,Tv.sv (Sv.one (At.ptr 4 0))),(7,Tv.sv (Sv.one (At.ptr 7 0))),(8,iT ((↑x.fst:Int)+1))] [(1,0,At.words true []),(1,1,At.int .u64 0),(2,0,At.words true []),(2,1,At.int .u64 0),(4,0,At.words x.snd.fst (fw (S0 (x.fst+1))).xs),(4,1,At.int .u64 (fw (S0 (x.fst+1))).e),(4,2,At.words x.snd.snd (fw (S1 (x.fst+1))).xs),(4,3,At.int .u64 (fw (S1 (x.fst+1))).e),(7,0,At.words false (fw (g f (Fx.mk (val ys) d) w (Fx.mk (val (fw (T x.fst)).xs) (fw (T x.fst)).e) ((↑x.fst:Int)+1))).xs),(7,1,At.int .u64 (fw (g f (Fx.mk (val ys) d) w (Fx.mk (val (fw (T x.fst)).xs) (fw (T x.fst)).e) ((↑x.fst:Int)+1))).e)] 10=LKeep.at smK (smSt (altF f ys d w) T S0 S1 a')∧K-a'.fst<K-a.fst):=by kernel_rfl
theorem sSmA_ok:SpecsOk Tryz.prog (sSmA stepA preA):=⟨seAdd_ok,seWid_ok,cAlt_ok,trivial⟩
def altSumR(f:Int)(sq:Fx)(w:Int)(t:Fx)(b:Nat):Fx:=sumR (stepA f sq w) t b
def altSumOk(f:Int)(sq:Fx)(w:Int)(t:Fx):Prop:=SumOk (stepA f sq w) (preA f sq w) t
def seSumA:Spec:=fun l=>match l with
  | [.agg [.words false xs,.int .u64 e],.one (.fn n [.ref [.int .i64 f],.ref [.words false ys,.int .u64 d],.ref [.int .i64 w]])] =>
    (some (n=123∧xs=ws (val xs)∧ys=ws (val ys)∧altSumOk f ⟨val ys,d⟩ w ⟨val xs,e⟩),
      .tup [.agg (fwL false (fw (altSumR f ⟨val ys,d⟩ w ⟨val xs,e⟩ 0))),.agg (fwL false (fw (altSumR f ⟨val ys,d⟩ w ⟨val xs,e⟩ 1)))])
  | _=>noSpec
theorem tmod2(k:Nat):Int.tmod (k:Int) 2=((k % 2:Nat):Int):=by rw [Int.tmod_eq_emod_of_nonneg (by omega)];omega
theorem seSumA_ok:SpecOk Tryz.prog 121 seSumA :=
  specOk_pat (envOk tys4_ok sSmA_ok) mixed Tryz.func121 rfl (by decide) 2 (by decide) fun l p t hwf e hp=>by
    unfold seSumA at e
    split at e
    · rename_i xs e0 n f ys d w
      cases e
      obtain ⟨hn,hx,hy,c1,c2,c3,c4,c5,c6⟩:n=123∧xs=ws (val xs)∧ys=ws (val ys)∧SumOk (stepA f ⟨val ys,d⟩ w) (preA f ⟨val ys,d⟩ w) ⟨val xs,e0⟩:=hp
      subst hn
      unfold altSumR sumR
      generalize hg:stepA f ⟨val ys,d⟩ w=g at *
      generalize hpr:preA f ⟨val ys,d⟩ w=pr at *
      generalize hK:stopK g ⟨val xs,e0⟩=K at *
      generalize ht:(⟨val xs,e0⟩:Fx)=t at *
      have v0:∀ k,k≤K→val (ws (Tm g t k).a)=(Tm g t k).a:=fun k hk=>val_ws (c6 k hk).1.1.1
      have l0:∀ k,k≤K→(ltI 0 ((ws (Tm g t k).a).length:Nat)=decide ((Tm g t k).a≠0)):=fun k hk=>len_pos (c6 k hk).1.1.1
      refine ⟨Nat.le_refl 2,smInv (altF f ys d w) (Tm g t) (Sm2 g t 0) (Sm2 g t 1) K,0,(sumA_vc stepA preA (Tm g t) (Sm2 g t 0) (Sm2 g t 1) K ⟨xs,e0⟩ f d w ys _).mpr ?_⟩
      have ew:∀ z:Fx,(fw z).e=z.e:=fun _=>rfl
      have ex:∀ z:Fx,(fw z).xs=ws z.a:=fun _=>rfl
      have w4:∀ k,k≤K→IntKind.u64.wrap ((Tm g t k).e+4)=(Tm g t k).e+4:=fun k hk=>wrap_w ⟨by have:=(c6 k hk).1.1.2.2;omega,by have:=(c6 k hk).1.1.2.2;omega⟩
      have fwt:∀ k,k≤K→(fw (Tm g t k)).f=Tm g t k:=fun k hk=>fw_f (c6 k hk).1.1.1
      have fw0:∀ k,k≤K→(fw (Sm2 g t 0 k)).f=Sm2 g t 0 k:=fun k hk=>fw_f (c6 k hk).2.1.1
      have fw1:∀ k,k≤K→(fw (Sm2 g t 1 k)).f=Sm2 g t 1 k:=fun k hk=>fw_f (c6 k hk).2.2.1
      refine ⟨rfl,⟨(0,true,true),Nat.zero_le _,?_⟩,fun a ha=>⟨br_intro (fun h=>⟨rfl,a,⟨rfl,?_⟩,rfl⟩) fun h=>br_intro (fun h'=>⟨rfl,a,⟨rfl,?_⟩,rfl⟩) fun h'=>?_,fun x ⟨hxa,hx⟩=>⟨⟨by decide,by decide,?_⟩,fun y ⟨hya,hy0⟩=>?_⟩⟩⟩
      · have z:smSt (altF f ys d w) (Tm g t) (Sm2 g t 0) (Sm2 g t 1) (0,true,true)=([(1,.sv (.one (altF f ys d w))),(4,.sv (.one (.ptr 1 0))),(5,.sv (.one (.ptr 2 0))),(6,.sv (.one (.ptr 4 0))),(7,.sv (.one (.ptr 7 0))),(8,iT 0)],
            [(1,0,.words true []),(1,1,.int .u64 0),(2,0,.words true []),(2,1,.int .u64 0),(4,0,.words true []),(4,1,.int .u64 0),(4,2,.words true []),(4,3,.int .u64 0),(7,0,.words false xs),(7,1,.int .u64 e0)]):=by
          have q:Tm g t 0=⟨val xs,e0⟩:=ht.symm
          have q0:fw (Sm2 g t 0 0)=⟨[],0⟩:=by show (⟨ws 0,0⟩:Fw)=_;rw [ws_zero]
          have q1:fw (Sm2 g t 1 0)=⟨[],0⟩:=by show (⟨ws 0,0⟩:Fw)=_;rw [ws_zero]
          have q2:fw (Tm g t 0)=⟨xs,e0⟩:=by rw [q];show (⟨ws (val xs),e0⟩:Fw)=_;rw [←hx]
          unfold smSt
          rw [q0,q1,q2];rfl
        unfold LKeep.at
        rw [z];rfl
      · have h:=(l0 a.1 ha).symm.trans h
        rcases Nat.lt_or_ge a.1 K with k | k
        · exact k
        · rw [show a.1=K by omega,c3] at h;simp at h
      · have:=eqI_true.1 h';omega
      · have h:=(l0 a.1 ha).symm.trans h
        have h':=eqI_false.1 h'
        have hk:a.1=K:=by
          rcases Nat.lt_or_ge a.1 K with k | k
          · have:=c4 a.1 (by omega) k;simp at h;exact absurd h this
          · omega
        obtain ⟨o1,o2,o3⟩:=c6 K (Nat.le_refl _)
        rw [hk,ew,w4 K (Nat.le_refl _),fw0 K (Nat.le_refl _),fw1 K (Nat.le_refl _),ex,ex,val_ws o2.1,val_ws o3.1]
        have p0:=o1.1.2.2
        have p1:=o1.2
        exact ⟨⟨by omega,by omega⟩,⟨o2.w,by omega,by omega,rfl⟩,⟨by omega,by omega⟩,⟨o3.w,by omega,by omega,rfl⟩,rfl,.inl rfl⟩
      · obtain ⟨o1,o2,o3⟩:=c6 x.1 (by omega)
        have i0:(0:Int)≤Int.tmod (x.1:Int) 2∧Int.tmod (x.1:Int) 2<((2:Nat):Int):=by rw [tmod2];omega
        rw [fw0 x.1 (by omega),fw1 x.1 (by omega),fwt x.1 (by omega)]
        refine br_intro (fun h=>⟨i0,⟨o2.w,o1.1.w⟩,br_intro (fun h'=>⟨i0,rfl,rfl,(x.1,false,x.2.2),⟨hxa,hx⟩,?_⟩) fun h'=>?_⟩) fun h=>⟨i0,⟨o3.w,o1.1.w⟩,br_intro (fun h'=>?_) fun h'=>⟨i0,rfl,rfl,(x.1,x.2.1,false),⟨hxa,hx⟩,?_⟩⟩
        · have h2:=eqI_true.1 h
          rw [tmod2] at h2
          have e1:Sm2 g t 0 (x.1+1)=addF (Sm2 g t 0 x.1) (Tm g t x.1):=if_pos (by omega)
          have e2:Sm2 g t 1 (x.1+1)=Sm2 g t 1 x.1:=if_neg (by omega)
          unfold LKeep.at smSt7
          rw [e1,e2];rfl
        · rw [h] at h';cases h'
        · rw [h] at h';cases h'
        · have h2:=eqI_false.1 h
          rw [tmod2] at h2
          have e1:Sm2 g t 1 (x.1+1)=addF (Sm2 g t 1 x.1) (Tm g t x.1):=if_pos (by omega)
          have e2:Sm2 g t 0 (x.1+1)=Sm2 g t 0 x.1:=if_neg (by omega)
          unfold LKeep.at smSt7
          rw [e1,e2];rfl
      · rw [ex,ew,v0 y.1 (by omega),hg,hpr]
        refine ⟨⟨by omega,by omega⟩,⟨rfl,hy,c5 y.1 hy0⟩,⟨by omega,by omega⟩,rfl,(y.1+1,y.2.1,y.2.2),hy0,?_,by show K-(y.1+1)<K-a.1;omega⟩
        rfl
    · cases e;exact hp.elim
theorem findK_spec{P:Nat→Bool}:∀ (n k j:Nat),k≤j→j<k+n→P j=true→k≤findK P n k∧findK P n k≤j∧P (findK P n k)=true∧∀ i,k≤i→i<findK P n k→P i=false
  | 0,k,j,h1,h2,_=>by omega
  | n+1,k,j,h1,h2,h3=>by
    unfold findK
    cases hk:P k with
    | true=>exact ⟨Nat.le_refl _,h1,hk,fun i a b=>by have b:i<k:=b;omega⟩
    | false =>
      have hne:k≠j:=fun e=>by rw [e,h3] at hk;cases hk
      obtain ⟨a,b,c,d⟩:=findK_spec n (k+1) j (by omega) (by omega) h3
      show k≤findK P n (k+1)∧findK P n (k+1)≤j∧P (findK P n (k+1))=true∧∀ i,k≤i→i<findK P n (k+1)→P i=false
      refine ⟨by omega,b,c,fun i x y=>?_⟩
      by_cases e:i=k
      · rw [e];exact hk
      · exact d i (by omega) y
structure Alt (f:Nat) (sq:Fx) (w:Int) (x:Rat):Prop where
  f1:1≤f
  f2:f≤2
  w0:32≤w
  w1:w≤65536
  hsq:InF w sq x
  he:sq.e≤16
  x0:0≤x
  x1:x≤1
abbrev altT(f:Nat)(sq:Fx)(w:Int):Nat→Fx:=Tm (stepA f sq w) ⟨2^w.toNat,0⟩
theorem div_anti{m a b:Int}(h:0≤m)(ha:0<a)(hab:a≤b):m/b≤m/a:=by
  refine Int.le_ediv_of_mul_le ha ?_
  have q:=Int.ediv_nonneg h (show 0≤b by omega)
  have:=imL hab q
  have:=Int.ediv_mul_le m (show b≠0 by omega)
  omega
section
variable {f:Nat} {sq:Fx} {w:Int} {x:Rat}
theorem rat_nat(n:Nat):((n:Int):Rat)=(n:Rat):=Rat.intCast_natCast n
theorem InF.one{w:Int}(h:0≤w):InF w ⟨2^w.toNat,0⟩ 1:=by
  have p:=two_pow_pos w.toNat
  have e:=p2_toNat h
  refine ⟨show 0≤2^w.toNat by omega,Int.le_refl _,?_,?_⟩
  · show ((2^w.toNat:Int):Rat)≤_;rw [←e];grind
  · show _≤((2^w.toNat+0:Int):Rat);rw [Int.add_zero,←e];grind
theorem stepA_eq(f k:Nat)(sq:Fx)(w:Int)(t:Fx):stepA f sq w t ((k+1:Nat):Int)=shortF (shortF (mulF t sq w) ((f+2*k:Nat):Int)) ((f+2*k+1:Nat):Int):=by
  unfold stepA
  rw [show (f:Int)+2*(((k+1:Nat):Int)-1)=((f+2*k:Nat):Int) by omega,show ((f+2*k:Nat):Int)+1=((f+2*k+1:Nat):Int) by omega]
theorem altT_in(h:Alt f sq w x):∀ k,InF w (altT f sq w k) (tmf f x k)
  | 0=>InF.one (by have:=h.w0;omega)
  | k+1=>by
    have ih:=altT_in h k
    show InF w (stepA f sq w (altT f sq w k) ((k+1:Nat):Int)) _
    rw [stepA_eq,tmf,←rat_nat,←rat_nat]
    have f1:=h.f1
    exact ((ih.mul (by have:=h.w0;omega) h.hsq).short (by omega)).short (by omega)
theorem p2_32{w:Int}(h:32≤w):(4294967296:Int)≤2^w.toNat:=by
  have:=two_pow_le (j:=32) (k:=w.toNat) (by omega)
  have e:(2:Int)^32=4294967296:=rfl
  omega
theorem InF.le_one{w:Int}{z:Fx}{r:Rat}(hw:0≤w)(h:InF w z r)(hr:r≤1):z.a≤2^w.toNat:=by
  have e:=p2_toNat hw
  have p:=p2_pos w
  have h1:=h.2.2.1
  have h2:=rmR hr (rlL p)
  rw [Rat.one_mul] at h2
  exact cast_le.1 (by rw [←e];grind)
theorem tmf_le1(f1:1≤f)(x0:0≤x)(x1:x≤1)(k:Nat):tmf f x k≤1:=by
  have h:=tmf_le f1 x0 x1 k
  have:=hf_le (Nat.zero_le k)
  rw [hf_zero] at this
  grind
theorem altT_e(h:Alt f sq w x):∀ k,(altT f sq w k).e≤16
  | 0=>by show (0:Int)≤16;omega
  | k+1=>by
    have ih:=altT_e h k
    have hin:=altT_in h k
    have w0:=h.w0
    have P:=p2_32 w0
    have he:=h.he
    have f1:=h.f1
    show (stepA f sq w (altT f sq w k) ((k+1:Nat):Int)).e≤16
    rw [stepA_eq]
    have a1:=hin.le_one (by omega) (tmf_le1 h.f1 h.x0 h.x1 k)
    have a2:=h.hsq.le_one (by omega) h.x1
    have hs:(altT f sq w k).e*sq.e≤2^w.toNat:=by
      have:=Int.mul_le_mul ih he h.hsq.2.1 (by omega)
      omega
    have mm:=mulF_e (w:=w) hin.2.1 h.hsq.2.1 a1 a2 hs
    show ((mulF (altT f sq w k) sq w).e/((f+2*k:Nat):Int)+2)/((f+2*k+1:Nat):Int)+2≤16
    have m0:0≤(mulF (altT f sq w k) sq w).e:=(hin.mul (by omega) h.hsq).2.1
    generalize (mulF (altT f sq w k) sq w).e=m at *
    by_cases hk:k=0
    · subst hk
      have hf:((f+2*0:Nat):Int)=1∨((f+2*0:Nat):Int)=2:=by have:=h.f2;omega
      have e0:(altT f sq w 0).e=0:=rfl
      rw [e0] at mm
      rcases hf with hf | hf
      · rw [hf,show ((f+2*0+1:Nat):Int)=2 by omega];omega
      · rw [hf,show ((f+2*0+1:Nat):Int)=3 by omega];omega
    · have d1:m/((f+2*k:Nat):Int)≤m/3:=div_anti (a:=3) (b:=((f+2*k:Nat):Int)) m0 (by omega) (by omega)
      have q0:=Int.ediv_nonneg m0 (show (0:Int)≤((f+2*k:Nat):Int) by omega)
      have d2:(m/((f+2*k:Nat):Int)+2)/((f+2*k+1:Nat):Int)≤(m/((f+2*k:Nat):Int)+2)/4:=div_anti (a:=4) (b:=((f+2*k+1:Nat):Int)) (by omega) (by omega) (by omega)
      omega
theorem InF.a0{z:Fx}{r:Rat}(h:InF w z r):0≤z.a:=h.1
theorem InF.e0{z:Fx}{r:Rat}(h:InF w z r):0≤z.e:=h.2.1
theorem altT_half(h:Alt f sq w x)(k:Nat):2*(altT f sq w (k+1)).a≤(altT f sq w k).a:=by
  have hin:=altT_in h k
  have w0:=h.w0
  have f1:=h.f1
  have a2:=h.hsq.le_one (by omega) h.x1
  have p:=two_pow_pos w.toNat
  show 2*(stepA f sq w (altT f sq w k) ((k+1:Nat):Int)).a≤_
  rw [stepA_eq]
  show 2*((altT f sq w k).a*sq.a/2^w.toNat/((f+2*k:Nat):Int)/((f+2*k+1:Nat):Int))≤_
  have m0:=Int.mul_nonneg hin.a0 h.hsq.a0
  have q0:=Int.ediv_nonneg m0 (show (0:Int)≤2^w.toNat by omega)
  have q1:(altT f sq w k).a*sq.a/2^w.toNat≤(altT f sq w k).a:=Int.ediv_le_of_le_mul p (imL a2 hin.a0)
  generalize (altT f sq w k).a*sq.a/2^w.toNat=q at *
  have d1:q/((f+2*k:Nat):Int)≤q:=Int.ediv_le_self _ q0
  have d0:=Int.ediv_nonneg q0 (show (0:Int)≤((f+2*k:Nat):Int) by omega)
  have d2:q/((f+2*k:Nat):Int)/((f+2*k+1:Nat):Int)≤q/((f+2*k:Nat):Int)/2:=div_anti (a:=2) (b:=((f+2*k+1:Nat):Int)) d0 (by omega) (by omega)
  omega
theorem altT_small(h:Alt f sq w x)(k:Nat):(altT f sq w k).a*2^k≤2^w.toNat:=by
  induction k with
  | zero=>show (2:Int)^w.toNat*2^0≤_;omega
  | succ k ih =>
    have:=altT_half h k
    have p:=two_pow_pos k
    have e:(altT f sq w (k+1)).a*2^(k+1)=(2*(altT f sq w (k+1)).a)*2^k:=by rw [Int.pow_succ,Int.mul_comm (2^k),←Int.mul_assoc,Int.mul_comm _ 2]
    rw [e]
    exact Int.le_trans (imR this (by omega)) ih
theorem altT_end(h:Alt f sq w x):(altT f sq w (w.toNat+1)).a=0:=by
  have h1:=altT_small h (w.toNat+1)
  have h0:=(altT_in h (w.toNat+1)).a0
  have p:=two_pow_pos w.toNat
  rw [Int.pow_succ] at h1
  by_cases e:(altT f sq w (w.toNat+1)).a=0
  · exact e
  · have:=imR (show 1≤(altT f sq w (w.toNat+1)).a by omega) (show (0:Int)≤2^w.toNat*2 by omega)
    omega
abbrev altK(f:Nat)(sq:Fx)(w:Int):Nat:=stopK (stepA f sq w) ⟨2^w.toNat,0⟩
theorem altK_spec(h:Alt f sq w x):1≤altK f sq w∧(altK f sq w:Int)≤w+1∧(altT f sq w (altK f sq w)).a=0∧∀ k,1≤k→k<altK f sq w→(altT f sq w k).a≠0:=by
  have w0:=h.w0
  have w1:=h.w1
  obtain ⟨a,b,c,d⟩:=findK_spec (P:=fun k=>decide ((altT f sq w k).a=0)) 1048576 1 (w.toNat+1) (by omega) (by omega) (by simpa using altT_end h)
  refine ⟨a,?_,of_decide_eq_true c,fun k h1 h2=>of_decide_eq_false (d k h1 h2)⟩
  have b:altK f sq w≤w.toNat+1:=b
  omega
abbrev altM(f:Nat)(sq:Fx)(w:Int)(b:Nat):Nat→Fx:=Sm2 (stepA f sq w) ⟨2^w.toNat,0⟩ b
theorem InF.zero(w:Int):InF w ⟨0,0⟩ 0:=⟨Int.le_refl _,Int.le_refl _,by rw [Rat.zero_mul];exact Rat.le_refl,by rw [Rat.zero_mul];exact Rat.le_refl⟩
theorem altM_in(h:Alt f sq w x)(b:Nat):∀ k,InF w (altM f sq w b k) (parS b f x k)
  | 0=>InF.zero w
  | k+1=>by
    have ih:=altM_in h b k
    have e:parS b f x (k+1)=parS b f x k+(if k % 2=b then tmf f x k else 0):=rfl
    rw [e]
    show InF w (if k % 2=b then addF (altM f sq w b k) (altT f sq w k) else altM f sq w b k) _
    split
    · exact ih.add (altT_in h k)
    · rw [Rat.add_zero];exact ih
theorem altM_e(h:Alt f sq w x)(b:Nat):∀ k,(altM f sq w b k).e≤16*(k:Int)
  | 0=>by show (0:Int)≤_;omega
  | k+1=>by
    have ih:=altM_e h b k
    have:=altT_e h k
    show (if k % 2=b then addF (altM f sq w b k) (altT f sq w k) else altM f sq w b k).e≤_
    split
    · show (altM f sq w b k).e+(altT f sq w k).e≤_;omega
    · omega
theorem altM_a(h:Alt f sq w x)(b:Nat):∀ k,(altM f sq w b k).a+2*(altT f sq w k).a≤2*2^w.toNat
  | 0=>by show (0:Int)+2*2^w.toNat≤_;omega
  | k+1=>by
    have ih:=altM_a h b k
    have:=altT_half h k
    have t0:=(altT_in h k).a0
    show (if k % 2=b then addF (altM f sq w b k) (altT f sq w k) else altM f sq w b k).a+_≤_
    split
    · show (altM f sq w b k).a+(altT f sq w k).a+_≤_;omega
    · omega
theorem altT_q(h:Alt f sq w x)(n:Nat):4*(altT f sq w (n+1+1)).a≤(altT f sq w (n+1)).a:=by
  have hin:=altT_in h (n+1)
  have w0:=h.w0
  have f1:=h.f1
  have a2:=h.hsq.le_one (by omega) h.x1
  have p:=two_pow_pos w.toNat
  show 4*(stepA f sq w (altT f sq w (n+1)) ((n+1+1:Nat):Int)).a≤_
  rw [stepA_eq]
  show 4*((altT f sq w (n+1)).a*sq.a/2^w.toNat/((f+2*(n+1):Nat):Int)/((f+2*(n+1)+1:Nat):Int))≤_
  have m0:=Int.mul_nonneg hin.a0 h.hsq.a0
  have q0:=Int.ediv_nonneg m0 (show (0:Int)≤2^w.toNat by omega)
  have q1:(altT f sq w (n+1)).a*sq.a/2^w.toNat≤(altT f sq w (n+1)).a:=Int.ediv_le_of_le_mul p (imL a2 hin.a0)
  generalize (altT f sq w (n+1)).a*sq.a/2^w.toNat=q at *
  have d1:q/((f+2*(n+1):Nat):Int)≤q:=Int.ediv_le_self _ q0
  have d0:=Int.ediv_nonneg q0 (show (0:Int)≤((f+2*(n+1):Nat):Int) by omega)
  have d2:q/((f+2*(n+1):Nat):Int)/((f+2*(n+1)+1:Nat):Int)≤q/((f+2*(n+1):Nat):Int)/4:=div_anti (a:=4) (b:=((f+2*(n+1)+1:Nat):Int)) d0 (by omega) (by omega)
  omega
theorem altR_le(h:Alt f sq w x){K:Nat}(hK:1≤K)(hK1:(K:Int)≤w+2):2^w.toNat≤(altM f sq w 0 K).a∧3*(altM f sq w 1 K).a≤2*2^w.toNat:=by
  constructor
  · -- the first term lies in it
    have key:∀ n,2^w.toNat≤(altM f sq w 0 (n+1)).a:=by
      intro n
      induction n with
      | zero=>show (2:Int)^w.toNat≤(addF ⟨0,0⟩ ⟨2^w.toNat,0⟩).a;show (2:Int)^w.toNat≤0+2^w.toNat;omega
      | succ n ih =>
        have t0:=(altT_in h (n+1)).a0
        show _≤(if (n+1) % 2=0 then addF (altM f sq w 0 (n+1)) (altT f sq w (n+1)) else altM f sq w 0 (n+1)).a
        split
        · show _≤(altM f sq w 0 (n+1)).a+(altT f sq w (n+1)).a;omega
        · exact ih
    obtain ⟨n,rfl⟩:∃ n,K=n+1:=⟨K-1,by omega⟩
    exact key n
  · -- the second term is at most a half,the others fall by fourths
    have t1:=altT_half h 0
    have key:∀ n,3*(altM f sq w 1 (n+1)).a+4*(altT f sq w (n+1)).a≤2*2^w.toNat:=by
      intro n
      induction n with
      | zero =>
        show 3*(0:Int)+_≤_
        have e:(altT f sq w 0).a=2^w.toNat:=rfl
        omega
      | succ n ih =>
        have t0:=(altT_in h (n+1+1)).a0
        have t2:=altT_q h n
        show 3*(if (n+1) % 2=1 then addF (altM f sq w 1 (n+1)) (altT f sq w (n+1)) else altM f sq w 1 (n+1)).a+_≤_
        split
        · show 3*((altM f sq w 1 (n+1)).a+(altT f sq w (n+1)).a)+_≤_;omega
        · omega
    obtain ⟨n,rfl⟩:∃ n,K=n+1:=⟨K-1,by omega⟩
    have:=key n
    have:=(altT_in h (n+1)).a0
    omega
def altD(f:Nat)(sq:Fx)(w:Int)(K:Nat)(c:Int):Fx:=subF (widerF (altM f sq w 0 K) c) (widerF (altM f sq w 1 K) c)
theorem altD_bd(h:Alt f sq w x){K:Nat}(hK:1≤K)(hK1:(K:Int)≤w+2){c:Int}(c0:0≤c)(c1:c≤32) :
    2^w.toNat≤4*(altD f sq w K c).a∧0≤(altD f sq w K c).e∧(altD f sq w K c).e≤4194304∧(altD f sq w K c).a+(altD f sq w K c).e≤3*2^w.toNat:=by
  obtain ⟨h1,h2⟩:=altR_le h hK hK1
  have w0:=h.w0
  have w1:=h.w1
  have P:=p2_32 w0
  have e0:=altM_e h 0 K
  have e1:=altM_e h 1 K
  have z0:=(altM_in h 0 K).e0
  have z1:=(altM_in h 1 K).e0
  have y1:=(altM_in h 1 K).a0
  have t0:=(altT_in h K).a0
  have a0:=altM_a h 0 K
  have ea:(altD f sq w K c).a=(altM f sq w 0 K).a-((altM f sq w 1 K).a+((altM f sq w 1 K).e+c)):=rfl
  have ee:(altD f sq w K c).e=(altM f sq w 0 K).e+c+((altM f sq w 1 K).e+c):=rfl
  rw [ea,ee]
  refine ⟨by omega,by omega,by omega,by omega⟩
theorem div_p2(n:Int)(w:Int):(n:Rat)*p2 (-w)*p2 w=(n:Rat):=by rw [Rat.mul_assoc,p2_neg,Rat.mul_one]
theorem le_div_p2{n w:Int}{r:Rat}(h:(n:Rat)≤r*p2 w):(n:Rat)*p2 (-w)≤r:=by
  rw [←mul_p2_le w,div_p2];exact h
theorem div_p2_le{n w:Int}{r:Rat}(h:r*p2 w≤(n:Rat)):r≤(n:Rat)*p2 (-w):=by
  rw [←mul_p2_le w,div_p2];exact h
theorem altD_enc(h:Alt f sq w x){K:Nat}(hK:1≤K){c:Int}(hc:12*(tmf f x K*p2 w)≤11*(c:Rat)) :
    Enc (altS f x) (((altD f sq w K c).a:Rat)*p2 (-w)) ((((altD f sq w K c).a+(altD f sq w K c).e:Int):Rat)*p2 (-w)):=by
  obtain ⟨_,_,p1,p2'⟩:=altM_in h 0 K
  obtain ⟨_,_,q1,q2⟩:=altM_in h 1 K
  have pw:=p2_pos (-w)
  have hr:12*tmf f x K≤11*((c:Rat)*p2 (-w)):=by
    rw [←mul_p2_le w]
    have e1:12*tmf f x K*p2 w=12*(tmf f x K*p2 w):=by grind
    have e2:11*((c:Rat)*p2 (-w))*p2 w=11*(c:Rat):=by rw [Rat.mul_assoc,div_p2]
    rw [e1,e2];exact hc
  have H:=altS_enc h.f1 h.x0 h.x1 hK (le_div_p2 p1) (div_p2_le p2') (le_div_p2 q1) (div_p2_le q2) hr
  have ea:(altD f sq w K c).a=(altM f sq w 0 K).a-((altM f sq w 1 K).a+((altM f sq w 1 K).e+c)):=rfl
  have ee:(altD f sq w K c).a+(altD f sq w K c).e=(altM f sq w 0 K).a+(altM f sq w 0 K).e+c-(altM f sq w 1 K).a:=by
    show (altM f sq w 0 K).a-((altM f sq w 1 K).a+((altM f sq w 1 K).e+c))+((altM f sq w 0 K).e+c+((altM f sq w 1 K).e+c))=_
    omega
  rw [ee,ea]
  refine H.wide ?_ ?_
  · rw [Rat.intCast_sub,rcA,rcA,rcA];grind
  · rw [Rat.intCast_sub,rcA,rcA];grind
theorem tmf_end(h:Alt f sq w x):tmf f x (altK f sq w)*p2 w≤16:=by
  obtain ⟨_,_,h3,_⟩:=altK_spec h
  have h4:=(altT_in h (altK f sq w)).2.2.2
  rw [h3,Int.zero_add] at h4
  have:=cast_le.2 (altT_e h (altK f sq w))
  have e:((16:Int):Rat)=16:=rfl
  grind
theorem blen_pow_le{n:Int}{k:Nat}(h:n≤2^k):blen n≤k+1:=blen_le (Int.lt_of_le_of_lt h (two_pow_lt (by omega)))
theorem altT_ok(h:Alt f sq w x)(k:Nat):(altT f sq w k).Ok∧(altT f sq w k).e≤549755813888:=by
  have hin:=altT_in h k
  have he:=altT_e h k
  have w0:=h.w0
  have w1:=h.w1
  have a1:=hin.le_one (by omega) (tmf_le1 h.f1 h.x0 h.x1 k)
  have:=blen_pow_le a1
  exact ⟨⟨hin.a0,by omega,hin.e0,by omega⟩,by omega⟩
theorem altM_ok(h:Alt f sq w x)(b:Nat){k:Nat}(hk:(k:Int)≤w+2):(altM f sq w b k).Ok:=by
  have hin:=altM_in h b k
  have he:=altM_e h b k
  have ha:=altM_a h b k
  have t0:=(altT_in h k).a0
  have w0:=h.w0
  have w1:=h.w1
  have:blen (altM f sq w b k).a≤w.toNat+1+1:=blen_pow_le (by rw [Int.pow_succ];omega)
  exact ⟨hin.a0,by omega,hin.e0,by omega⟩
theorem altSum_ok(h:Alt f sq w x)(hs:sq.Ok):SumOk (stepA f sq w) (preA f sq w) ⟨2^w.toNat,0⟩:=by
  obtain ⟨k1,k2,k3,k4⟩:=altK_spec h
  have w0:=h.w0
  have w1:=h.w1
  have f1:=h.f1
  have f2:=h.f2
  refine ⟨k1,by have k2:((stopK (stepA f sq w) ⟨2^w.toNat,0⟩:Nat):Int)≤w+1:=k2;omega,k3,k4,fun k hk=>?_,fun k hk=>⟨altT_ok h k,altM_ok h 0 ?_,altM_ok h 1 ?_⟩⟩
  · have hin:=altT_in h k
    have he:=altT_e h k
    have hh:=h.he
    have P:=p2_32 w0
    have a1:=hin.le_one (by omega) (tmf_le1 h.f1 h.x0 h.x1 k)
    have a2:=h.hsq.le_one (by omega) h.x1
    have hs':(altT f sq w k).e*sq.e≤2^w.toNat:=by
      have:=Int.mul_le_mul he hh h.hsq.2.1 (by omega)
      omega
    have m:=mulF_e (w:=w) hin.e0 h.hsq.e0 a1 a2 hs'
    have k2:((stopK (stepA f sq w) ⟨2^w.toNat,0⟩:Nat):Int)≤w+1:=k2
    exact ⟨(altT_ok h k).1,hs,by omega,by omega,by show (mulF (altT f sq w k) sq w).e≤_;omega,by omega,by omega,by omega,by omega⟩
  · have k2:((stopK (stepA f sq w) ⟨2^w.toNat,0⟩:Nat):Int)≤w+1:=k2;omega
  · have k2:((stopK (stepA f sq w) ⟨2^w.toNat,0⟩:Nat):Int)≤w+1:=k2;omega
end
theorem log2_up:∀ (n:Nat) (e:Int) (q:Rat),p2 e≤q→q<p2 (e+(n:Int)+1)→∃ k:Int,p2 k≤q∧q<p2 (k+1)
  | 0,e,q,h1,h2=>⟨e,h1,by rwa [show e+((0:Nat):Int)+1=e+1 by omega] at h2⟩
  | n+1,e,q,h1,h2=>by
    rcases (show q<p2 (e+1)∨p2 (e+1)≤q by grind) with h | h
    · exact ⟨e,h1,h⟩
    · exact log2_up n (e+1) q h (by rwa [show e+1+(n:Int)+1=e+((n+1:Nat):Int)+1 by omega])
theorem log2_ex{q:Rat}(h:0<q):∃ k:Int,p2 k≤q∧q<p2 (k+1):=by
  have hn:0<q.num:=by have:=(Rat.lt_iff 0 q).1 h;simpa using this
  have hd:(0:Rat)<((q.den:Int):Rat):=cast_ne (by have:=q.den_pos;omega)
  have e:q*((q.den:Int):Rat)=(q.num:Rat):=by
    have h1:=Rat.mkRat_self q
    rw [Rat.mkRat_eq_div,Rat.div_def,←Rat.intCast_natCast] at h1
    have h2:=Rat.inv_mul_cancel ((q.den:Int):Rat) (by grind)
    conv=>lhs;lhs;rw [←h1]
    rw [Rat.mul_assoc,h2,Rat.mul_one]
  have a1:=amt_lt (m:=q.num) (e:=0)
  have a2:=amt_ge (m:=q.num) (e:=0) hn
  have b1:=amt_lt (m:=(q.den:Int)) (e:=0)
  rw [p2_zero,Rat.mul_one] at a1 a2 b1
  have d1:(1:Rat)≤((q.den:Int):Rat):=by
    have:=cast_le.2 (show (1:Int)≤(q.den:Int) by have:=q.den_pos;omega)
    exact this
  have u:q<p2 (0+(blen q.num:Int)):=by
    have:=rmL d1 (rlL h)
    grind
  have l:p2 (-(0+(blen (q.den:Int):Int)))≤q:=by
    have p:=p2_pos (0+(blen (q.den:Int):Int))
    rw [←Rat.not_lt,←Rat.mul_lt_mul_right p,p2_neg]
    have h1:(1:Rat)≤(q.num:Rat):=cast_le.2 (show (1:Int)≤q.num by omega)
    have:=rmL (rlL b1) (rlL h)
    grind
  exact log2_up (blen q.num+blen (q.den:Int)) _ q l (by have:=p2_le (show (0:Int)+(blen q.num:Int)≤-(0+(blen (q.den:Int):Int))+((blen q.num+blen (q.den:Int):Nat):Int)+1 by omega);grind)
def eps(p:Int):Rat:=p2 (1-p)
theorem eps_pos(p:Int):0<eps p:=p2_pos _
theorem rat_floor{q:Rat}(hq:0≤q)(j:Int):∃ k:Int,0≤k∧(k:Rat)*p2 j≤q∧q<((k+1:Int):Rat)*p2 j:=by
  refine ⟨(q*p2 (-j)).floor,?_,?_,?_⟩
  · have:=rmN hq (rlL (p2_pos (-j)))
    exact Rat.le_floor_iff.2 (by simpa using this)
  · have h:=rmR (Rat.floor_le (q*p2 (-j))) (rlL (p2_pos j))
    rwa [Rat.mul_assoc,p2_neg,Rat.mul_one] at h
  · have h:=(mul_p2_lt j).2 (Rat.lt_floor_add_one (q*p2 (-j)))
    rw [Rat.mul_assoc,p2_neg,Rat.mul_one] at h
    exact h
theorem Dn.rel{p:Int}{q r:Rat}(h:Dn p q r)(hp:1≤p)(hq:0<q):q-eps p*q≤r∧0<r:=by
  obtain ⟨k,k1,k2⟩:=log2_ex hq
  obtain ⟨n,n0,n1,n2⟩:=rat_floor (rlL hq) (k+1-p)
  have hP:(2:Int)^(p-1).toNat≤n:=by
    have e:p2 (p-1)*p2 (k+1-p)=p2 k:=by rw [←p2_add];congr 1;omega
    have:p2 (p-1)<((n+1:Int):Rat):=by
      rw [←mul_p2_lt (k+1-p),e];grind
    rw [p2_toNat (by omega)] at this
    have:=cast_lt.1 this
    omega
  have r1:(n:Rat)*p2 (k+1-p)≤r:=by
    refine h.2.2 _ ?_ n1
    refine ⟨n,_,rfl,?_,?_⟩
    · have e:p2 p*p2 (k+1-p)=p2 (k+1):=by rw [←p2_add];congr 1;omega
      rw [←mul_p2_lt (k+1-p),e];grind
    · have:=p2_pos p
      have:(0:Rat)≤(n:Rat):=cast_le.2 n0
      grind
  have e1:p2 (k+1-p)=eps p*p2 k:=by unfold eps;rw [←p2_add];congr 1;omega
  have g1:=rmL k1 (rlL (eps_pos p))
  have e2:((n+1:Int):Rat)*p2 (k+1-p)=(n:Rat)*p2 (k+1-p)+p2 (k+1-p):=by
    rw [rcA];show ((n:Rat)+1)*_=_;grind
  have np:(0:Rat)<(n:Rat):=cast_ne (by have:=two_pow_pos (p-1).toNat;omega)
  have:=Rat.mul_pos np (p2_pos (k+1-p))
  exact ⟨by grind,by grind⟩
theorem Up.rel{p:Int}{q r:Rat}(h:Up p q r)(hp:1≤p)(hq:0<q):r≤q+eps p*q:=by
  obtain ⟨k,k1,k2⟩:=log2_ex hq
  obtain ⟨n,n0,n1,n2⟩:=rat_floor (rlL hq) (k+1-p)
  have e1:p2 (k+1-p)=eps p*p2 k:=by unfold eps;rw [←p2_add];congr 1;omega
  have g1:=rmL k1 (rlL (eps_pos p))
  have e2:((n+1:Int):Rat)*p2 (k+1-p)=(n:Rat)*p2 (k+1-p)+p2 (k+1-p):=by
    rw [rcA];show ((n:Rat)+1)*_=_;grind
  have e:p2 p*p2 (k+1-p)=p2 (k+1):=by rw [←p2_add];congr 1;omega
  have hn:(n:Rat)<p2 p:=by rw [←mul_p2_lt (k+1-p),e];grind
  have nn:(0:Rat)≤(n:Rat):=cast_le.2 n0
  rcases (show (((n+1:Int):Rat)<p2 p)∨p2 p≤((n+1:Int):Rat) by grind) with hl | hl
  · have r1:r≤((n+1:Int):Rat)*p2 (k+1-p):=by
      refine h.2.2 _ ⟨n+1,_,rfl,hl,?_⟩ (rlL n2)
      have:=p2_pos p
      have:(0:Rat)≤((n+1:Int):Rat):=cast_le.2 (show (0:Int)≤n+1 by omega)
      grind
    grind
  · -- n+1 is a power of 2
    have r1:r≤p2 (k+1):=by
      refine h.2.2 _ ⟨1,k+1,?_,?_,?_⟩ (rlL k2)
      · show _=(1:Rat)*_;rw [Rat.one_mul]
      · have:=p2_lt (show (0:Int)<p by omega);rw [p2_zero] at this;exact this
      · have:=p2_pos p;show -(p2 p)<(1:Rat);grind
    have g:=rmR hl (rlL (p2_pos (k+1-p)))
    rw [e] at g
    grind
def Nar(δ a b:Rat):Prop:=0<a∧a≤b∧b≤a+δ*a
theorem Nar.mono{δ η a b:Rat}(h:Nar δ a b)(k:δ≤η):Nar η a b:=by
  have:=rmR k (rlL h.1)
  exact ⟨h.1,h.2.1,by have:=h.2.2;grind⟩
theorem Nar.self{a:Rat}(h:0<a):Nar 0 a a:=⟨h,Rat.le_refl,by grind⟩
theorem Nar.trim{δ a b a' b':Rat}{p:Int}(h:Nar δ a b)(d0:0≤δ)(hp:1≤p)(he:4*eps p≤1)(ha:Dn p a a')(hb:Up p b b'):Nar (2*δ+4*eps p) a' b':=by
  obtain ⟨a0,h1,h2⟩:=h
  have r1:=ha.rel hp a0
  have r2:=hb.rel hp (show 0<b by grind)
  have e0:=eps_pos p
  have l1:=ha.2.1
  have l2:=hb.2.1
  refine ⟨r1.2,by grind,?_⟩
  generalize eps p=ε at *
  have s1:a≤a' + 2*ε*a':=by
    have m1:=rmL r1.1 (show (0:Rat)≤1+2*ε by grind)
    have m2:=rmL (show 2*ε≤1 by grind) (rmN (rlL e0) (rlL a0))
    grind
  have s2:b+ε*b≤(1+δ)*(1+ε)*a:=by
    have:=rmL h2 (show (0:Rat)≤1+ε by grind)
    grind
  have s3:=rmL s1 (rmN (show (0:Rat)≤1+δ by grind) (show (0:Rat)≤1+ε by grind))
  have q1:(1+ε)*(1+2*ε)≤1+4*ε:=by
    have:=rmL (show 2*ε≤1 by grind) (rlL e0)
    grind
  have q2:(1+δ)*(1+4*ε)≤1+(2*δ+4*ε):=by
    have:=rmL he d0
    grind
  have q3:=rmL q1 (show (0:Rat)≤1+δ by grind)
  have q4:=rmR (show (1+δ)*((1+ε)*(1+2*ε))≤1+(2*δ+4*ε) by grind) (rlL r1.2)
  have e5:(1+δ)*(1+ε)*(a' + 2*ε*a')=(1+δ)*((1+ε)*(1+2*ε))*a':=by grind
  grind
theorem Nar.mul{δ η a b c d:Rat}(h:Nar δ a b)(k:Nar η c d)(d0:0≤δ)(_:0≤η):Nar (δ+η+δ*η) (a*c) (b*d):=by
  obtain ⟨a0,h1,h2⟩:=h
  obtain ⟨c0,k1,k2⟩:=k
  have m1:=rmR h1 (rlL c0)
  have m2:=rmL k1 (show 0≤b by grind)
  have m3:=rmR h2 (show 0≤d by grind)
  have g:=rmN d0 (rlL a0)
  have m4:=rmL k2 (show 0≤a+δ*a by grind)
  exact ⟨Rat.mul_pos a0 c0,by grind,by grind⟩
def nShortU:Spec:=specK [.w,.i .u64] fun (xs:List Int) (d:Int)=>(some (0<d∧d≤4294967296),wT (ws (val xs/d)))
theorem nShortU_ok:SpecOk Tryz.prog 148 nShortU :=
  handK_ok Tryz.func148 rfl (by decide) fun _ _ hC hX _=>fun _ _ _ h d _ v h' hp=>by
    obtain rfl:=repS_int h'
    have h0:0<d:=hp.1
    have h1:d≤4294967296:=hp.2
    exact nat_back hC hX (short3u_calls (rep_natAt h) ⟨by omega,by omega⟩ h0 h1)
def sN9:List (FuncId×Spec):=(148,nShortU) :: sRef3
theorem sN9_ok:SpecsOk Tryz.prog sN9:=⟨nShortU_ok,sRef3_ok⟩
def niOne:Spec:=specK [.i .i64] fun (q:Int)=>(some (0≤q∧q≤16777216),fxT ⟨2^q.toNat,0⟩)
theorem niOne_vc(q:Int)(Q:Tv→Prop):execF ⟨tys3,sN9⟩ (fun _=>none) 0 Tryz.f110 [.one (.int .i64 q)] Q=(Word 1∧((0:Int)≤q∧q≤1099511627776∧List.length (ws 1)≤8796093022208)∧Q (Tv.sv (Sv.agg [At.words true (ws (val (ws 1)*2^Int.toNat q)),At.int .u64 0]))):=by kernel_rfl
theorem niOne_ok:SpecOk Tryz.prog 110 niOne :=
  specKW_ok (envOk tys3_ok sN9_ok) mixed Tryz.func110 rfl (by decide) (by decide) fun (q:Int) _ hp=>⟨fun _=>none,0,by
    obtain ⟨h0,h1⟩:0≤q∧q≤16777216:=hp
    refine (niOne_vc q _).mpr ?_
    rw [val_ws_one,Int.one_mul]
    exact ⟨word_one,⟨h0,by omega,by simp [ws_one]⟩,.inr rfl⟩⟩
def from9(d:Dx)(q:Int):Fx:=if 0≤d.e+q then ⟨d.m*2^(d.e+q).toNat,0⟩ else ⟨d.m/2^(-d.e-q).toNat,if lostB d.m (-d.e-q).toNat=true then 1 else 0⟩
def niAdd:Spec:=specK [.fx,.fx] fun (x:Fw) (y:Fw)=>(some (x.Ok∧y.Ok),fxT (addF x.f y.f))
theorem niAdd_vc(x y:Fw)(Q:Tv→Prop):execF ⟨tys3,sN9⟩ (fun _=>none) 0 Tryz.f111 [.agg (fwL false x),.agg (fwL false y)] Q=((List.length x.xs≤17592186044414∧List.length y.xs≤17592186044414)∧true=true∧Q (Tv.sv (Sv.agg [At.words true (ws (val x.xs+val y.xs)),At.int .u64 (IntKind.wrap IntKind.u64 (x.e+y.e))]))):=by kernel_rfl
theorem niAdd_ok:SpecOk Tryz.prog 111 niAdd :=
  specKW_ok (envOk tys3_ok sN9_ok) mixed Tryz.func111 rfl (by decide) (by decide) fun (x:Fw) _ (y:Fw) _ hp=>⟨fun _=>none,0,by
    obtain ⟨⟨a1,a2,a3⟩,b1,b2,b3⟩:x.Ok∧y.Ok:=hp
    refine (niAdd_vc x y _).mpr ?_
    rw [wrap_w ⟨by omega,by omega⟩]
    exact ⟨⟨by omega,by omega⟩,rfl,.inr rfl⟩⟩
def niSub:Spec:=specK [.fx,.fx] fun (x:Fw) (y:Fw)=>(some (x.Ok∧y.Ok∧y.f.a+y.f.e≤x.f.a),fxT (subF x.f y.f))
theorem niSub_vc(x y:Fw)(Q:Tv→Prop):execF ⟨tys3,sN9⟩ (fun _=>none) 0 Tryz.f65 [.agg (fwL false x),.agg (fwL false y)] Q=(Word y.e∧(List.length y.xs≤17592186044414∧List.length (ws y.e)≤17592186044414)∧(val (ws (val y.xs+val (ws y.e)))≤val x.xs∧List.length x.xs≤17592186044414∧List.length (ws (val y.xs+val (ws y.e)))≤17592186044414)∧true=true∧Q (Tv.sv (Sv.agg [At.words true (ws (val x.xs-val (ws (val y.xs+val (ws y.e))))),At.int .u64 (IntKind.wrap IntKind.u64 (x.e+y.e))]))):=by kernel_rfl
theorem niSub_ok:SpecOk Tryz.prog 65 niSub :=
  specKW_ok (envOk tys3_ok sN9_ok) mixed Tryz.func65 rfl (by decide) (by decide) fun (x:Fw) hx (y:Fw) hy hp=>⟨fun _=>none,0,by
    obtain ⟨⟨a1,a2,a3⟩,yo,h⟩:x.Ok∧y.Ok∧y.f.a+y.f.e≤x.f.a:=hp
    have yl:=yo.len hy
    obtain ⟨b1,b2,b3⟩:=yo
    have:=ws_small b3
    refine (niSub_vc x y _).mpr ?_
    rw [val_ws b2,←y.f_a,←y.f_e,val_ws yl.2.1,wrap_w ⟨by rw [y.f_e];omega,by rw [y.f_e];omega⟩,y.f_e]
    exact ⟨⟨b2,by omega⟩,⟨by omega,by omega⟩,⟨h,by omega,by rw [←y.f_e];omega⟩,rfl,.inr rfl⟩⟩
def niHigh:Spec:=specK [.fx] fun (x:Fw)=>(some x.Ok,wT (ws (x.f.a+x.f.e)))
theorem niHigh_vc(x:Fw)(Q:Tv→Prop):execF ⟨tys3,sN9⟩ (fun _=>none) 0 Tryz.f64 [.agg (fwL false x)] Q=(Word x.e∧(List.length x.xs≤17592186044414∧List.length (ws x.e)≤17592186044414)∧true=true∧Q (Tv.sv (Sv.one (At.words true (ws (val x.xs+val (ws x.e))))))):=by kernel_rfl
theorem niHigh_ok:SpecOk Tryz.prog 64 niHigh :=
  specK_ok (envOk tys3_ok sN9_ok) mixed Tryz.func64 rfl (by decide) (by decide) fun (x:Fw) _ hp=>⟨fun _=>none,0,by
    obtain ⟨a1,a2,a3⟩:x.Ok:=hp
    refine (niHigh_vc x _).mpr ?_
    have:=ws_small a3
    rw [val_ws a2]
    exact ⟨⟨a2,by omega⟩,⟨by omega,by omega⟩,rfl,rfl⟩⟩
def niSmall:Spec:=specK [.fx,.i .u64] fun (x:Fw) (d:Int)=>(some (0≤x.e∧x.e≤1099511627776∧0<d∧d≤4294967296),fxT (shortF x.f d))
theorem niSmall_vc(x:Fw)(d:Int)(Q:Tv→Prop):execF ⟨tys3,sN9⟩ (fun _=>none) 0 Tryz.f109 [.agg (fwL false x),.one (.int .u64 d)] Q=(((0:Int)<d∧d≤4294967296)∧d≠0∧true=true∧Q (Tv.sv (Sv.agg [At.words true (ws (val x.xs/d)),At.int .u64 (IntKind.wrap IntKind.u64 (IntKind.wrap IntKind.u64 (Int.tdiv x.e d)+2))]))):=by kernel_rfl
theorem niSmall_ok:SpecOk Tryz.prog 109 niSmall :=
  specKW_ok (envOk tys3_ok sN9_ok) mixed Tryz.func109 rfl (by decide) (by decide) fun (x:Fw) _ (d:Int) _ hp=>⟨fun _=>none,0,by
    obtain ⟨h0,h1,h2,h3⟩:0≤x.e∧x.e≤1099511627776∧0<d∧d≤4294967296:=hp
    have q0:=Int.ediv_nonneg h0 (show 0≤d by omega)
    have q1:=Int.ediv_le_self d h0
    refine (niSmall_vc x d _).mpr ?_
    rw [Int.tdiv_eq_ediv_of_nonneg h0,wrap_w (n:=x.e/d) ⟨q0,by omega⟩,wrap_w ⟨by omega,by omega⟩]
    exact ⟨⟨h2,h3⟩,by omega,rfl,.inr rfl⟩⟩
def sNi1:List (FuncId×Spec):=[(110,niOne),(111,niAdd),(65,niSub),(64,niHigh),(109,niSmall)] ++ sRef3
theorem sNi1_ok:SpecsOk Tryz.prog sNi1:=⟨niOne_ok,niAdd_ok,niSub_ok,niHigh_ok,niSmall_ok,sRef3_ok⟩
def sNi2:List (FuncId×Spec):=[(34,fForm)] ++ sNi1
theorem sNi2_ok:SpecsOk Tryz.prog sNi2:=⟨fForm_ok,sNi1_ok⟩
def niIval:Spec:=specK [.fx,.i .i64] fun (x:Fw) (q:Int)=>(some (x.Ok∧0≤q∧q≤16777216),vT (ivF x.f q))
theorem niIval_vc(x:Fw)(q:Int)(Q:Tv→Prop):execF ⟨tys3,sNi2⟩ (fun _=>none) 0 Tryz.f28 [.agg (fwL false x),.one (.int .i64 q)] Q=(inR ((0:Int)-q)∧((-4611686018427387904:Int)≤0-q∧(0:Int)-q≤4611686018427387904)∧Fw.Ok x∧inR ((0:Int)-q)∧((-4611686018427387904:Int)≤0-q∧(0:Int)-q≤4611686018427387904)∧true=true∧Q (Tv.sv (Sv.agg (ivL true (Vx.mk (mkD false (val x.xs) ((0:Int)-q)) (mkD false (val (ws ((Fw.f x).a+(Fw.f x).e))) ((0:Int)-q))))))):=by kernel_rfl
theorem niIval_ok:SpecOk Tryz.prog 28 niIval :=
  specK_ok (envOk tys3_ok sNi2_ok) mixed Tryz.func28 rfl (by decide) (by decide) fun (x:Fw) hx (q:Int) _ hp=>⟨fun _=>none,0,by
    obtain ⟨xo,q0,q1⟩:x.Ok∧0≤q∧q≤16777216:=hp
    refine (niIval_vc x q _).mpr ?_
    rw [val_ws (xo.len hx).2.1,Int.zero_sub]
    exact ⟨⟨by omega,by omega⟩,⟨by omega,by omega⟩,xo,⟨by omega,by omega⟩,⟨by omega,by omega⟩,rfl,rfl⟩⟩
def fix11(v:Vx)(q:Int):Fx:=btwF (from9 v.lo q).a ((from9 v.hi q).a+(from9 v.hi q).e)
def sNi:List (FuncId×Spec):=[(28,niIval)] ++ sNi2
theorem sNi_ok:SpecsOk Tryz.prog sNi:=⟨niIval_ok,sNi2_ok⟩
def InV(v:Vx)(x:Rat):Prop:=v.lo.rv≤x∧x≤v.hi.rv
theorem right_of{x:Vx}(h1:x.lo.fitsB=true)(h2:x.hi.fitsB=true)(h:x.lo.rv≤x.hi.rv):rightV x=true:=by
  rw [rightV,h1,h2,decide_eq_true (cmpD_le.2 h)];rfl
theorem spanS_rv(v:Vx)(d:Dx):(spanS v d).lo.rv≤v.lo.rv∧(spanS v d).lo.rv≤d.rv∧((spanS v d).lo=v.lo∨(spanS v d).lo=d)∧v.hi.rv≤(spanS v d).hi.rv∧d.rv≤(spanS v d).hi.rv∧((spanS v d).hi=v.hi∨(spanS v d).hi=d):=by
  unfold spanS
  have a:(if cmpD d v.lo<0 then d else v.lo).rv≤v.lo.rv∧(if cmpD d v.lo<0 then d else v.lo).rv≤d.rv∧((if cmpD d v.lo<0 then d else v.lo)=v.lo∨(if cmpD d v.lo<0 then d else v.lo)=d):=by
    by_cases h:cmpD d v.lo<0
    · rw [if_pos h];have:=cmpD_lt0.1 h;exact ⟨by grind,by grind,.inr rfl⟩
    · rw [if_neg h];have:¬ d.rv<v.lo.rv:=fun k=>h (cmpD_lt0.2 k);exact ⟨by grind,by grind,.inl rfl⟩
  have b:v.hi.rv≤(if 0<cmpD d v.hi then d else v.hi).rv∧d.rv≤(if 0<cmpD d v.hi then d else v.hi).rv∧((if 0<cmpD d v.hi then d else v.hi)=v.hi∨(if 0<cmpD d v.hi then d else v.hi)=d):=by
    by_cases h:0<cmpD d v.hi
    · rw [if_pos h];have:=cmpD_gt0.1 h;exact ⟨by grind,by grind,.inr rfl⟩
    · rw [if_neg h];have:¬ v.hi.rv<d.rv:=fun k=>h (cmpD_gt0.2 k);exact ⟨by grind,by grind,.inl rfl⟩
  exact ⟨a.1,a.2.1,a.2.2,b.1,b.2.1,b.2.2⟩
theorem span4_lo(a b c d:Dx):(spanL a [b,c,d]).lo.rv≤a.rv∧(spanL a [b,c,d]).lo.rv≤b.rv∧(spanL a [b,c,d]).lo.rv≤c.rv∧(spanL a [b,c,d]).lo.rv≤d.rv ∧
    ((spanL a [b,c,d]).lo=a∨(spanL a [b,c,d]).lo=b∨(spanL a [b,c,d]).lo=c∨(spanL a [b,c,d]).lo=d):=by
  have h1:=spanS_rv ⟨a,a⟩ b
  have h2:=spanS_rv (spanS ⟨a,a⟩ b) c
  have h3:=spanS_rv (spanS (spanS ⟨a,a⟩ b) c) d
  rw [show spanL a [b,c,d]=spanS (spanS (spanS ⟨a,a⟩ b) c) d from rfl]
  have a1:=h1.1;have a2:=h1.2.1;have a3:=h2.1;have a4:=h2.2.1;have a5:=h3.1;have a6:=h3.2.1
  simp only at a1
  refine ⟨by grind,by grind,by grind,a6,?_⟩
  rcases h3.2.2.1 with k | k<;>rw [k]
  · rcases h2.2.2.1 with k | k<;>rw [k]
    · rcases h1.2.2.1 with k | k<;>rw [k]
      · exact .inl rfl
      · exact .inr (.inl rfl)
    · exact .inr (.inr (.inl rfl))
  · exact .inr (.inr (.inr rfl))
theorem span4_hi(a b c d:Dx):a.rv≤(spanL a [b,c,d]).hi.rv∧b.rv≤(spanL a [b,c,d]).hi.rv∧c.rv≤(spanL a [b,c,d]).hi.rv∧d.rv≤(spanL a [b,c,d]).hi.rv ∧
    ((spanL a [b,c,d]).hi=a∨(spanL a [b,c,d]).hi=b∨(spanL a [b,c,d]).hi=c∨(spanL a [b,c,d]).hi=d):=by
  have h1:=spanS_rv ⟨a,a⟩ b
  have h2:=spanS_rv (spanS ⟨a,a⟩ b) c
  have h3:=spanS_rv (spanS (spanS ⟨a,a⟩ b) c) d
  rw [show spanL a [b,c,d]=spanS (spanS (spanS ⟨a,a⟩ b) c) d from rfl]
  have a1:=h1.2.2.2.1;have a2:=h1.2.2.2.2.1;have a3:=h2.2.2.2.1;have a4:=h2.2.2.2.2.1;have a5:=h3.2.2.2.1;have a6:=h3.2.2.2.2.1
  simp only at a1
  refine ⟨by grind,by grind,by grind,a6,?_⟩
  rcases h3.2.2.2.2.2 with k | k<;>rw [k]
  · rcases h2.2.2.2.2.2 with k | k<;>rw [k]
    · rcases h1.2.2.2.2.2 with k | k<;>rw [k]
      · exact .inl rfl
      · exact .inr (.inl rfl)
    · exact .inr (.inr (.inl rfl))
  · exact .inr (.inr (.inr rfl))
theorem trim_best{w:Vx}{p:Int}(hw:w.P)(hp:1≤p):Dn p w.lo.rv (trimV w p).lo.rv∧Up p w.hi.rv (trimV w p).hi.rv:=⟨(cutD_best hw.1 hp).1,(cutD_best hw.2 hp).2⟩
theorem plus_best{v u:Vx}{p:Int}(hv:v.P)(hu:u.P)(hp:1≤p):Dn p (v.lo.rv+u.lo.rv) (plusV v u p).lo.rv∧Up p (v.hi.rv+u.hi.rv) (plusV v u p).hi.rv:=by
  have:=trim_best (w:=sumV v u) ⟨plusD_p,plusD_p⟩ hp
  rw [show (sumV v u).lo.rv=v.lo.rv+u.lo.rv from rv_plus hv.1 hu.1,show (sumV v u).hi.rv=v.hi.rv+u.hi.rv from rv_plus hv.2 hu.2] at this
  exact this
theorem less_best{v u:Vx}{p:Int}(hv:v.P)(hu:u.P)(hp:1≤p):Dn p (v.lo.rv-u.hi.rv) (lessV v u p).lo.rv∧Up p (v.hi.rv-u.lo.rv) (lessV v u p).hi.rv:=by
  have:=plus_best (v:=v) (u:=turnV u) hv ⟨negD_p,negD_p⟩ hp
  rw [show (turnV u).lo.rv = -u.hi.rv from rv_neg hu.2,show (turnV u).hi.rv = -u.lo.rv from rv_neg hu.1,←Rat.sub_eq_add_neg,←Rat.sub_eq_add_neg] at this
  exact this
theorem prod_lo{v u:Vx}(hv:v.P)(hu:u.P):(∀ x0 y0,(x0=v.lo.rv∨x0=v.hi.rv)→(y0=u.lo.rv∨y0=u.hi.rv)→(prodV v u).lo.rv≤x0*y0∧x0*y0≤(prodV v u).hi.rv):=by
  obtain ⟨a1,a2,a3,a4,_⟩:=span4_lo (timesD v.lo u.lo) (timesD v.lo u.hi) (timesD v.hi u.lo) (timesD v.hi u.hi)
  obtain ⟨b1,b2,b3,b4,_⟩:=span4_hi (timesD v.lo u.lo) (timesD v.lo u.hi) (timesD v.hi u.lo) (timesD v.hi u.hi)
  rw [rv_times hv.1 hu.1] at a1 b1
  rw [rv_times hv.1 hu.2] at a2 b2
  rw [rv_times hv.2 hu.1] at a3 b3
  rw [rv_times hv.2 hu.2] at a4 b4
  intro x0 y0 hx hy
  rcases hx with rfl | rfl<;>rcases hy with rfl | rfl
  · exact ⟨a1,b1⟩
  · exact ⟨a2,b2⟩
  · exact ⟨a3,b3⟩
  · exact ⟨a4,b4⟩
theorem prod_at{v u:Vx}(hv:v.P)(hu:u.P):(∃ x0 y0,(x0=v.lo.rv∨x0=v.hi.rv)∧(y0=u.lo.rv∨y0=u.hi.rv)∧(prodV v u).lo.rv=x0*y0)∧(∃ x0 y0,(x0=v.lo.rv∨x0=v.hi.rv)∧(y0=u.lo.rv∨y0=u.hi.rv)∧(prodV v u).hi.rv=x0*y0):=by
  obtain ⟨_,_,_,_,a⟩:=span4_lo (timesD v.lo u.lo) (timesD v.lo u.hi) (timesD v.hi u.lo) (timesD v.hi u.hi)
  obtain ⟨_,_,_,_,b⟩:=span4_hi (timesD v.lo u.lo) (timesD v.lo u.hi) (timesD v.hi u.lo) (timesD v.hi u.hi)
  constructor
  · show ∃ x0 y0,_∧_∧(spanL (timesD v.lo u.lo) [timesD v.lo u.hi,timesD v.hi u.lo,timesD v.hi u.hi]).lo.rv=_
    rcases a with a | a | a | a<;>rw [a]
    · exact ⟨_,_,.inl rfl,.inl rfl,rv_times hv.1 hu.1⟩
    · exact ⟨_,_,.inl rfl,.inr rfl,rv_times hv.1 hu.2⟩
    · exact ⟨_,_,.inr rfl,.inl rfl,rv_times hv.2 hu.1⟩
    · exact ⟨_,_,.inr rfl,.inr rfl,rv_times hv.2 hu.2⟩
  · show ∃ x0 y0,_∧_∧(spanL (timesD v.lo u.lo) [timesD v.lo u.hi,timesD v.hi u.lo,timesD v.hi u.hi]).hi.rv=_
    rcases b with b | b | b | b<;>rw [b]
    · exact ⟨_,_,.inl rfl,.inl rfl,rv_times hv.1 hu.1⟩
    · exact ⟨_,_,.inl rfl,.inr rfl,rv_times hv.1 hu.2⟩
    · exact ⟨_,_,.inr rfl,.inl rfl,rv_times hv.2 hu.1⟩
    · exact ⟨_,_,.inr rfl,.inr rfl,rv_times hv.2 hu.2⟩
theorem prod_in{v u:Vx}{x y:Rat}(hv:v.P)(hu:u.P)(hx:InV v x)(hy:InV u y):(prodV v u).lo.rv≤x*y∧x*y≤(prodV v u).hi.rv:=by
  have h:=prod_lo hv hu
  obtain ⟨x0,y0,k1,k2,k3⟩:=corner_le hx.1 hx.2 hy.1 hy.2
  obtain ⟨x1,y1,l1,l2,l3⟩:=corner_ge hx.1 hx.2 hy.1 hy.2
  have h1:=h x0 y0 k1 k2
  have h2:=h x1 y1 l1 l2
  constructor<;>grind
theorem times_best{v u:Vx}{p:Int}(hp:1≤p)(hv:v.P)(hu:u.P):Dn p (prodV v u).lo.rv (timesV v u p).lo.rv∧Up p (prodV v u).hi.rv (timesV v u p).hi.rv:=by
  have _:=hv
  have _:=hu
  exact trim_best (prodV_p v u) hp
theorem inv_between{c d y:Rat}(h1:c≤y)(h2:y≤d)(h:0<c∨d<0):d⁻¹≤y⁻¹∧y⁻¹≤c⁻¹:=by
  have key:∀ {a b:Rat},a≤b→(0<a∨b<0)→b⁻¹≤a⁻¹:=by
    intro a b hab h0
    have ha:a≠0:=by grind
    have hb:b≠0:=by grind
    have e1:a⁻¹*a=1:=Rat.inv_mul_cancel a ha
    have e2:b⁻¹*b=1:=Rat.inv_mul_cancel b hb
    have e3:(a⁻¹-b⁻¹)*(a*b)=b-a:=by grind
    have hab0:0<a*b:=by
      rcases h0 with h0 | h0
      · exact Rat.mul_pos h0 (by grind)
      · have:=Rat.mul_pos (show 0 < -a by grind) (show 0 < -b by grind);grind
    rcases (show b⁻¹≤a⁻¹∨a⁻¹<b⁻¹ by grind) with h | h
    · exact h
    · have:=Rat.mul_pos (show 0<b⁻¹-a⁻¹ by grind) hab0
      grind
  exact ⟨key h2 (by grind),key h1 (by grind)⟩
def Off0(u:Vx):Prop:=0<u.lo.rv∨u.hi.rv<0
theorem rv_ne{d:Dx}(h:d.rv≠0):d.m≠0:=fun e=>h (rv_zero e)
theorem over_corner{a b:Dx}{p:Int}(ha:0≤a.m)(hb:0≤b.m)(hb0:b.rv≠0)(hp:1≤p):Dn p (a.rv*b.rv⁻¹) (overD a b p false).rv∧Up p (a.rv*b.rv⁻¹) (overD a b p true).rv :=
  over_best ha hb (rv_ne hb0) hp (by rw [Rat.mul_assoc,Rat.inv_mul_cancel _ hb0,Rat.mul_one])
def Cor(v u:Vx)(a b:Dx):Prop:=(a=v.lo∨a=v.hi)∧(b=u.lo∨b=u.hi)
theorem div_lo(v u:Vx)(p:Int){a b:Dx}(h:Cor v u a b):(divV v u p).lo.rv≤(overD a b p false).rv∧(overD a b p true).rv≤(divV v u p).hi.rv:=by
  obtain ⟨a1,a2,a3,a4,_⟩:=span4_lo (overD v.lo u.lo p false) (overD v.lo u.hi p false) (overD v.hi u.lo p false) (overD v.hi u.hi p false)
  obtain ⟨b1,b2,b3,b4,_⟩:=span4_hi (overD v.lo u.lo p true) (overD v.lo u.hi p true) (overD v.hi u.lo p true) (overD v.hi u.hi p true)
  obtain ⟨h1,h2⟩:=h
  rcases h1 with rfl | rfl<;>rcases h2 with rfl | rfl
  · exact ⟨a1,b1⟩
  · exact ⟨a2,b2⟩
  · exact ⟨a3,b3⟩
  · exact ⟨a4,b4⟩
theorem div_at(v u:Vx)(p:Int):(∃ a b,Cor v u a b∧(divV v u p).lo=overD a b p false)∧∃ a b,Cor v u a b∧(divV v u p).hi=overD a b p true:=by
  obtain ⟨_,_,_,_,a⟩:=span4_lo (overD v.lo u.lo p false) (overD v.lo u.hi p false) (overD v.hi u.lo p false) (overD v.hi u.hi p false)
  obtain ⟨_,_,_,_,b⟩:=span4_hi (overD v.lo u.lo p true) (overD v.lo u.hi p true) (overD v.hi u.lo p true) (overD v.hi u.hi p true)
  constructor
  · rcases a with a | a | a | a
    · exact ⟨_,_,⟨.inl rfl,.inl rfl⟩,a⟩
    · exact ⟨_,_,⟨.inl rfl,.inr rfl⟩,a⟩
    · exact ⟨_,_,⟨.inr rfl,.inl rfl⟩,a⟩
    · exact ⟨_,_,⟨.inr rfl,.inr rfl⟩,a⟩
  · rcases b with a | a | a | a
    · exact ⟨_,_,⟨.inl rfl,.inl rfl⟩,a⟩
    · exact ⟨_,_,⟨.inl rfl,.inr rfl⟩,a⟩
    · exact ⟨_,_,⟨.inr rfl,.inl rfl⟩,a⟩
    · exact ⟨_,_,⟨.inr rfl,.inr rfl⟩,a⟩
theorem Cor.best{v u:Vx}{a b:Dx}{p:Int}(h:Cor v u a b)(hv:v.P)(hu:u.P)(h0:Off0 u)(hle:u.lo.rv≤u.hi.rv)(hp:1≤p):b.rv≠0∧Dn p (a.rv*b.rv⁻¹) (overD a b p false).rv∧Up p (a.rv*b.rv⁻¹) (overD a b p true).rv:=by
  obtain ⟨h1,h2⟩:=h
  have hb:b.rv≠0:=by
    rcases h2 with rfl | rfl<;>unfold Off0 at h0<;>grind
  have ha:0≤a.m:=by rcases h1 with rfl | rfl;exact hv.1;exact hv.2
  have hbm:0≤b.m:=by rcases h2 with rfl | rfl;exact hu.1;exact hu.2
  exact ⟨hb,over_corner ha hbm hb hp⟩
theorem quo_corner{v u:Vx}{x y:Rat}(h0:Off0 u)(hx:InV v x)(hy:InV u y):(∃ a b,Cor v u a b∧a.rv*b.rv⁻¹≤x*y⁻¹)∧∃ a b,Cor v u a b∧x*y⁻¹≤a.rv*b.rv⁻¹:=by
  obtain ⟨i1,i2⟩:=inv_between hy.1 hy.2 h0
  constructor
  · obtain ⟨x0,y0,k1,k2,k3⟩:=corner_le hx.1 hx.2 i1 i2
    rcases k1 with rfl | rfl<;>rcases k2 with rfl | rfl
    · exact ⟨_,_,⟨.inl rfl,.inr rfl⟩,k3⟩
    · exact ⟨_,_,⟨.inl rfl,.inl rfl⟩,k3⟩
    · exact ⟨_,_,⟨.inr rfl,.inr rfl⟩,k3⟩
    · exact ⟨_,_,⟨.inr rfl,.inl rfl⟩,k3⟩
  · obtain ⟨x0,y0,k1,k2,k3⟩:=corner_ge hx.1 hx.2 i1 i2
    rcases k1 with rfl | rfl<;>rcases k2 with rfl | rfl
    · exact ⟨_,_,⟨.inl rfl,.inr rfl⟩,k3⟩
    · exact ⟨_,_,⟨.inl rfl,.inl rfl⟩,k3⟩
    · exact ⟨_,_,⟨.inr rfl,.inr rfl⟩,k3⟩
    · exact ⟨_,_,⟨.inr rfl,.inl rfl⟩,k3⟩
theorem div_in{v u:Vx}{x y:Rat}{p:Int}(hv:v.P)(hu:u.P)(h0:Off0 u)(hp:1≤p)(hx:InV v x)(hy:InV u y):InV (divV v u p) (x*y⁻¹):=by
  have hle:u.lo.rv≤u.hi.rv:=by have:=hy.1;have:=hy.2;grind
  obtain ⟨⟨a,b,k1,k2⟩,c,d,k3,k4⟩:=quo_corner h0 hx hy
  have b1:=(k1.best hv hu h0 hle hp).2.1.2.1
  have b2:=(k3.best hv hu h0 hle hp).2.2.2.1
  have c1:=(div_lo v u p k1).1
  have c2:=(div_lo v u p k3).2
  exact ⟨by grind,by grind⟩
theorem trimV_p(v:Vx)(p:Int):(trimV v p).P:=⟨cutD_p,cutD_p⟩
theorem quoV_p(v u:Vx)(p:Int)(up:Bool):(quoV v u p up).P:=span4_p overD_p overD_p overD_p overD_p
theorem divV_p(v u:Vx)(p:Int):(divV v u p).P:=⟨(quoV_p v u p false).1,(quoV_p v u p true).2⟩
theorem lost_iff(n:Int)(k:Nat):lostB n k=true↔n % 2^k≠0:=by unfold lostB;simp
def Fl(n:Int)(q:Rat):Prop:=(n:Rat)≤q∧q<(n:Rat)+1
def Ce(n:Int)(q:Rat):Prop:=q≤(n:Rat)∧(n:Rat)<q+1
theorem Fl.neg{n:Int}{q:Rat}(h:Fl n (-q)):Ce (-n) q:=by
  obtain ⟨h1,h2⟩:=h
  constructor
  · rw [Rat.intCast_neg];grind
  · rw [Rat.intCast_neg];grind
theorem Fl.nonneg{n:Int}{q:Rat}(h:Fl n q)(hq:0≤q):0≤n:=by
  have h2:=h.2
  have e:(n:Rat)+1=((n+1:Int):Rat):=by rw [rcA];rfl
  have:((0:Int):Rat)<((n+1:Int):Rat):=by rw [←e];show (0:Rat)<_;grind
  have:=cast_lt.1 this
  omega
theorem Ce.nonneg{n:Int}{q:Rat}(h:Ce n q)(hq:0≤q):0≤n:=by
  have:((0:Int):Rat)≤(n:Rat):=by show (0:Rat)≤_;have:=h.1;grind
  exact cast_le.1 this
theorem amt_split(m:Int)(k:Nat):(m:Rat)*p2 (-(k:Int))=((m/2^k:Int):Rat)+((m % 2^k:Int):Rat)*p2 (-(k:Int)):=by
  have p:=two_pow_pos k
  have h:=Int.mul_ediv_add_emod m (2^k)
  have e:p2 (k:Int)=((2^k:Int):Rat):=p2_nat k
  have i:=p2_neg (k:Int)
  conv=>lhs;lhs;rw [←h]
  rw [rcA,rcM,←e]
  grind
theorem fl_amt{m:Int}(k:Nat):Fl (m/2^k) ((m:Rat)*p2 (-(k:Int)))∧Ce (m/2^k+if lostB m k=true then 1 else 0) ((m:Rat)*p2 (-(k:Int))):=by
  have p:=two_pow_pos k
  have e:p2 (k:Int)=((2^k:Int):Rat):=p2_nat k
  have i:=p2_neg (k:Int)
  have m0:=Int.emod_nonneg m (show (2:Int)^k≠0 by omega)
  have m1:=Int.emod_lt_of_pos m p
  have q0:=p2_pos (-(k:Int))
  have c0:(0:Rat)≤((m % 2^k:Int):Rat):=cast_le.2 m0
  have c1:((m % 2^k:Int):Rat)<p2 (k:Int):=by rw [e];exact cast_lt.2 m1
  have l1:=Rat.mul_lt_mul_of_pos_right c1 q0
  have l0:=rmN c0 (rlL q0)
  rw [amt_split]
  refine ⟨⟨by grind,by grind⟩,?_⟩
  by_cases hl:m % 2^k=0
  · rw [if_neg (by rw [lost_iff];simpa using hl),hl,Int.add_zero]
    have z:((0:Int):Rat)=0:=rfl
    exact ⟨by grind,by grind⟩
  · rw [if_pos (by rw [lost_iff];exact hl)]
    have ad:((m/2^k+1:Int):Rat)=((m/2^k:Int):Rat)+1:=rcA _ _
    have c2:(1:Rat)≤((m % 2^k:Int):Rat):=cast_le.2 (show (1:Int)≤_ by omega)
    have l2:=Rat.mul_pos (show (0:Rat)<((m % 2^k:Int):Rat) by grind) q0
    exact ⟨by rw [ad];grind,by rw [ad];grind⟩
theorem fl_int(n:Int):Fl n (n:Rat)∧Ce n (n:Rat):=⟨⟨by grind,by grind⟩,by grind,by grind⟩
theorem floorD_rv{d:Dx}(hd:0≤d.m):∃ n:Int,(floorD d).rv=(n:Rat)∧Fl n d.rv:=by
  have m0:0≤(oneD d).m:=oneD_p
  have hr:=rv_one hd
  unfold floorD
  split
  · rename_i h
    have e:(oneD d).rv=(((oneD d).sm*2^(oneD d).e.toNat:Int):Rat):=by
      unfold Dx.rv;rw [p2_toNat h,rcM]
    refine ⟨_,e,?_⟩
    rw [←hr,e];exact (fl_int _).1
  · rename_i h
    have p:=two_pow_pos (-(oneD d).e).toNat
    have q0:0≤(oneD d).m/2^(-(oneD d).e).toNat:=Int.ediv_nonneg m0 (by omega)
    have ee:p2 (oneD d).e=p2 (-((-(oneD d).e).toNat:Int)):=by congr 1;omega
    have f:=fl_amt (m:=(oneD d).m) (-(oneD d).e).toNat
    rw [rv_mkD (by split<;>omega),p2_zero,Rat.mul_one,←hr,sm_amt]
    cases hn:(oneD d).neg with
    | false =>
      refine ⟨_,rfl,?_⟩
      rw [Bool.and_false,if_neg (by simp),if_neg (by simp),if_neg (by simp),Int.add_zero,ee,Rat.one_mul]
      exact f.1
    | true =>
      refine ⟨_,rfl,?_⟩
      rw [Bool.and_true,if_pos rfl,if_pos rfl,ee]
      obtain ⟨f1,f2⟩:=f.2
      constructor
      · rw [Rat.intCast_neg];grind
      · rw [Rat.intCast_neg];grind
theorem wholeI_rv{d:Dx}(hd:0≤d.m)(he:0≤d.e)(h:0≤d.rv):(wholeI d:Rat)=d.rv:=by
  rw [(rv_amt hd).1 h,p2_toNat he];unfold wholeI;rw [rcM]
def Fx2(z:Fx)(lo hi:Rat):Prop:=Fl z.a lo∧Ce (z.a+z.e) hi
theorem Fx2.in{z:Fx}{q:Int}{l h r:Rat}(k:Fx2 z (l*p2 q) (h*p2 q))(l0:0≤l)(h1:l≤r)(h2:r≤h):InF q z r:=by
  obtain ⟨k1,k2⟩:=k
  have p:=p2_pos q
  have a1:=rmR h1 (rlL p)
  have a2:=rmR h2 (rlL p)
  have l1:=rmN l0 (rlL p)
  have z0:=k1.nonneg l1
  refine ⟨z0,?_,by have:=k1.1;grind,by have:=k2.1;grind⟩
  have:((z.a:Int):Rat)≤((z.a+z.e:Int):Rat):=by have:=k1.1;have:=k2.1;grind
  have:=cast_le.1 this
  omega
theorem Fx2.e_le{z:Fx}{lo hi c:Rat}{n:Int}(k:Fx2 z lo hi)(h:hi-lo≤c)(hc:c+2≤(n:Rat)):z.e<n:=by
  obtain ⟨k1,k2⟩:=k
  have e:((z.a+z.e:Int):Rat)=(z.a:Rat)+(z.e:Rat):=rcA _ _
  exact cast_lt.1 (by have:=k1.2;have:=k2.2;grind)
theorem fromF_2{v:Vx}{q:Int}(hv:v.P)(h0:0≤v.lo.rv)(h1:0≤v.hi.rv):Fx2 (fromF v q) (v.lo.rv*p2 q) (v.hi.rv*p2 q):=by
  obtain ⟨n,n1,n2⟩:=floorD_rv (d:=shiftD v.lo q) shiftD_p
  obtain ⟨m,m1,m2⟩:=floorD_rv (d:=negD (shiftD v.hi q)) negD_p
  rw [rv_shift hv.1] at n2
  rw [rv_neg shiftD_p,rv_shift hv.2] at m2
  have p:=rlL (p2_pos q)
  have l0:=rmN h0 p
  have l1:=rmN h1 p
  have n0:=n2.nonneg l0
  have c:=m2.neg
  have c0:=c.nonneg l1
  have w1:wholeI (floorD (shiftD v.lo q))=n:=by
    have:=wholeI_rv (d:=floorD (shiftD v.lo q)) floorD_p floorD_e (by rw [n1];exact cast_le.2 n0)
    rw [n1] at this;exact Rat.intCast_inj.1 this
  have rn:(negD (floorD (negD (shiftD v.hi q)))).rv=((-m:Int):Rat):=by rw [rv_neg floorD_p,m1,Rat.intCast_neg]
  have w2:wholeI (negD (floorD (negD (shiftD v.hi q)))) = -m:=by
    have:=wholeI_rv (d:=negD (floorD (negD (shiftD v.hi q)))) negD_p (negD_e0 floorD_e) (by rw [rn];exact cast_le.2 c0)
    rw [rn] at this;exact Rat.intCast_inj.1 this
  unfold Fx2 fromF btwF
  rw [w1,w2]
  refine ⟨n2,?_⟩
  show Ce (n+(-m-n)) _
  rw [show n+(-m-n) = -m by omega];exact c
theorem from9_2{d:Dx}{q:Int}(hd:0≤d.m)(h0:0≤d.rv):Fx2 (from9 d q) (d.rv*p2 q) (d.rv*p2 q):=by
  have e:d.rv*p2 q=(d.m:Rat)*p2 (d.e+q):=by rw [(rv_amt hd).1 h0,p2_add,Rat.mul_assoc]
  rw [e]
  unfold from9
  split
  · rename_i h
    have e2:(d.m:Rat)*p2 (d.e+q)=((d.m*2^(d.e+q).toNat:Int):Rat):=by rw [p2_toNat h,rcM]
    rw [e2]
    refine ⟨(fl_int _).1,?_⟩
    show Ce (_+0) _
    rw [Int.add_zero];exact (fl_int _).2
  · rename_i h
    rw [show d.e+q = -((-d.e-q).toNat:Int) by omega]
    exact fl_amt _
theorem fix11_2{v:Vx}{q:Int}(hv:v.P)(h0:0≤v.lo.rv)(h1:0≤v.hi.rv):Fx2 (fix11 v q) (v.lo.rv*p2 q) (v.hi.rv*p2 q):=by
  have a:=(from9_2 (q:=q) hv.1 h0).1
  have b:=(from9_2 (q:=q) hv.2 h1).2
  refine ⟨a,?_⟩
  unfold fix11 btwF
  show Ce ((from9 v.lo q).a+((from9 v.hi q).a+(from9 v.hi q).e-(from9 v.lo q).a)) _
  rw [show (from9 v.lo q).a+((from9 v.hi q).a+(from9 v.hi q).e-(from9 v.lo q).a)=(from9 v.hi q).a+(from9 v.hi q).e by omega]
  exact b
theorem dn_up_gap{p:Int}{q r r':Rat}(hp:1≤p)(h:Dn p q r)(k:Up p q r')(hq:0≤q):0≤r∧r' - r≤2*eps p*q:=by
  have z:=h.2.2 0 (Rp.zero p) hq
  refine ⟨z,?_⟩
  rcases (show q=0∨0<q by grind) with e | e
  · subst e
    have:=k.2.2 0 (Rp.zero p) Rat.le_refl
    grind
  · have:=(h.rel hp e).1
    have:=k.rel hp e
    grind
section
variable {t:Dx}
theorem pointV_p(d:Dx):(pointV d).P:=⟨oneD_p,oneD_p⟩
theorem sq_prod(ht:0≤t.m):(prodV (pointV t) (pointV t)).lo.rv=t.rv*t.rv∧(prodV (pointV t) (pointV t)).hi.rv=t.rv*t.rv:=by
  have e1:(pointV t).lo.rv=t.rv:=rv_one ht
  have e2:(pointV t).hi.rv=t.rv:=rv_one ht
  obtain ⟨⟨x,y,hx,hy,h⟩,x',y',hx',hy',h'⟩:=prod_at (pointV_p t) (pointV_p t)
  rw [e1,e2] at hx hy hx' hy'
  have a:∀ z,z=t.rv∨z=t.rv→z=t.rv:=fun z hz=>by rcases hz with h | h<;>exact h
  rw [h,h',a x hx,a y hy,a x' hx',a y' hy']
  exact ⟨rfl,rfl⟩
abbrev sqV(t:Dx)(p:Int):Vx:=timesV (pointV t) (pointV t) p
theorem sqV_best(ht:0≤t.m){p:Int}(hp:1≤p):Dn p (t.rv*t.rv) (sqV t p).lo.rv∧Up p (t.rv*t.rv) (sqV t p).hi.rv:=by
  have h:=times_best hp (pointV_p t) (pointV_p t)
  rwa [(sq_prod ht).1,(sq_prod ht).2] at h
theorem sqr_nonneg(a:Rat):0≤a*a:=by
  rcases (show 0≤a∨0≤-a by grind) with h | h
  · exact rmN h h
  · have:=rmN h h;grind
theorem sqr_le1{a:Rat}(h1:a≤1)(h2:-1≤a):a*a≤1:=by
  have:=rmN (show 0≤1-a by grind) (show 0≤1+a by grind)
  grind
theorem trim_same{v:Vx}{p:Int}(hv:v.P)(hp:1≤p){x y:Rat}(h1:Dn p x v.lo.rv)(h2:Up p y v.hi.rv):(trimV v p).lo.rv=v.lo.rv∧(trimV v p).hi.rv=v.hi.rv:=by
  have h:=trim_best hv hp
  exact ⟨h.1.uniq (Dn.self h1.1),h.2.uniq (Up.self h2.1)⟩
theorem eps_p2(p w:Int):eps p*p2 w=p2 (1-p+w):=by unfold eps;rw [p2_add]
def sqS(t:Dx)(w:Int):Fx:=fromF (trimV (sqV t (w+8)) (w+8)) w
def sqR(t:Dx)(q:Int):Fx:=fix11 (sqV t q) q
theorem sqS_alt(ht:0≤t.m)(h1:t.rv≤1)(h2:-1≤t.rv){f:Nat}(f1:1≤f)(f2:f≤2){w:Int}(w0:32≤w)(w1:w≤65536):Alt f (sqS t w) w (t.rv*t.rv):=by
  have x0:=sqr_nonneg t.rv
  have x1:=sqr_le1 h1 h2
  have hp:1≤w+8:=by omega
  obtain ⟨b1,b2⟩:=sqV_best ht hp
  obtain ⟨g1,g2⟩:=dn_up_gap hp b1 b2 x0
  have P:(sqV t (w+8)).P:=trimV_p _ _
  obtain ⟨e1,e2⟩:=trim_same P hp b1 b2
  have F:=fromF_2 (v:=trimV (sqV t (w+8)) (w+8)) (q:=w) (trimV_p _ _) (by rw [e1];exact g1) (by rw [e2];have:=b2.2.1;grind)
  rw [e1,e2] at F
  refine ⟨f1,f2,w0,w1,F.in g1 b1.2.1 b2.2.1,?_,x0,x1⟩
  have:=F.e_le (c:=1) (n:=3) (by
    have p0:=p2_pos w
    have m1:=rmR g2 (rlL p0)
    have m2:=rmL x1 (rmN (rlL (eps_pos (w+8))) (rlL p0))
    have e:eps (w+8)*p2 w=p2 (-7):=by rw [eps_p2];congr 1;omega
    have e7:p2 (-7)≤p2 (-1):=p2_le (by omega)
    have e8:2*p2 (-1)=1:=by have:=p2_neg 1;rw [p2_one] at this;grind
    grind) (by show (1:Rat)+2≤3;grind)
  show (sqS t w).e≤16
  have:(sqS t w).e<3:=this
  omega
theorem sqR_alt(ht:0≤t.m)(h1:t.rv≤1)(h2:-1≤t.rv){f:Nat}(f1:1≤f)(f2:f≤2){w:Int}(w0:32≤w)(w1:w≤65536):Alt f (sqR t w) w (t.rv*t.rv):=by
  have x0:=sqr_nonneg t.rv
  have x1:=sqr_le1 h1 h2
  have hp:1≤w:=by omega
  obtain ⟨b1,b2⟩:=sqV_best ht hp
  obtain ⟨g1,g2⟩:=dn_up_gap hp b1 b2 x0
  have P:(sqV t w).P:=trimV_p _ _
  have F:=fix11_2 (v:=sqV t w) (q:=w) P g1 (by have:=b2.2.1;grind)
  refine ⟨f1,f2,w0,w1,F.in g1 b1.2.1 b2.2.1,?_,x0,x1⟩
  have:=F.e_le (c:=4) (n:=6) (by
    have p0:=p2_pos w
    have m1:=rmR g2 (rlL p0)
    have m2:=rmL x1 (rmN (rlL (eps_pos w)) (rlL p0))
    have e:eps w*p2 w=2:=by rw [eps_p2,show 1-w+w=1 by omega,p2_one]
    grind) (by show (4:Rat)+2≤6;grind)
  show (sqR t w).e≤16
  have:(sqR t w).e<6:=this
  omega
theorem Alt.sqOk{f:Nat}{sq:Fx}{w:Int}{x:Rat}(h:Alt f sq w x):sq.Ok:=by
  have a:=h.hsq.le_one (by have:=h.w0;omega) h.x1
  have:=blen_pow_le a
  have w1:=h.w1
  have w0:=h.w0
  have:=h.he
  exact ⟨h.hsq.a0,by omega,h.hsq.e0,by omega⟩
end
def altV(f:Nat)(t:Dx)(w:Int):Vx:=ivF (altD f (sqS t w) w (altK f (sqS t w) w) ((altT f (sqS t w) w (altK f (sqS t w) w)).e+8)) w
def altR(f:Nat)(t:Dx)(w:Int):Vx:=ivF (altD f (sqR t w) w (altK f (sqR t w) w+1) 4) w
structure AltIv (f:Nat) (t:Dx) (w:Int) (v:Vx):Prop where
  p:v.P
  enc:Enc (altS f (t.rv*t.rv)) v.lo.rv v.hi.rv
  lo:1≤4*v.lo.rv
  hi:v.hi.rv≤3
  wide:v.hi.rv-v.lo.rv≤p2 (22-w)
  bits:∃ a b:Int,0≤a∧a≤3*2^w.toNat∧0≤b∧b≤3*2^w.toNat∧v=⟨mkD false a (-w),mkD false b (-w)⟩
theorem altIv_of{f:Nat}{t:Dx}{sq:Fx}{w:Int}{K:Nat}{c:Int}(h:Alt f sq w (t.rv*t.rv))(hK:1≤K)(hK1:(K:Int)≤w+2)(c0:0≤c)(c1:c≤32)(hc:12*(tmf f (t.rv*t.rv) K*p2 w)≤11*(c:Rat)) :
    AltIv f t w (ivF (altD f sq w K c) w):=by
  obtain ⟨b1,b2,b3,b4⟩:=altD_bd h hK hK1 c0 c1
  have E:=altD_enc h hK hc
  have w0:=h.w0
  have P:=two_pow_pos w.toNat
  generalize altD f sq w K c=z at *
  have r1:(ivF z w).lo.rv=(z.a:Rat)*p2 (-w):=by
    show (mkD false z.a (-w)).rv=_;rw [rv_mkD (by omega)];rfl
  have r2:(ivF z w).hi.rv=((z.a+z.e:Int):Rat)*p2 (-w):=by
    show (mkD false (z.a+z.e) (-w)).rv=_;rw [rv_mkD (by omega)];rfl
  have pw:p2 w=((2^w.toNat:Int):Rat):=p2_toNat (by omega)
  have q:=p2_pos w
  refine ⟨⟨mkD_p,mkD_p⟩,by rw [r1,r2];exact E,?_,?_,?_,z.a,z.a+z.e,by omega,by omega,by omega,b4,rfl⟩
  · rw [r1,←mul_p2_le w]
    have e:4*((z.a:Rat)*p2 (-w))*p2 w=((4*z.a:Int):Rat):=by
      rw [Rat.mul_assoc,div_p2,rcM];rfl
    rw [e,Rat.one_mul,pw];exact cast_le.2 b1
  · rw [r2,←mul_p2_le w,div_p2,pw]
    have:((z.a+z.e:Int):Rat)≤((3*2^w.toNat:Int):Rat):=cast_le.2 b4
    rw [rcM] at this;exact this
  · rw [r1,r2,←mul_p2_le w]
    have e:(((z.a+z.e:Int):Rat)*p2 (-w)-(z.a:Rat)*p2 (-w))*p2 w=(z.e:Rat):=by
      have h1:=div_p2 (z.a+z.e) w
      have h2:=div_p2 z.a w
      rw [rcA] at h1 ⊢
      grind
    rw [e,←p2_add,show 22-w+w=22 by omega,p2_toNat (by omega)]
    exact cast_le.2 (show z.e≤2^(22:Int).toNat from by have:(2:Int)^(22:Int).toNat=4194304:=rfl;omega)
theorem altV_iv{f:Nat}{t:Dx}{w:Int}(h:Alt f (sqS t w) w (t.rv*t.rv)):AltIv f t w (altV f t w):=by
  obtain ⟨k1,k2,k3,k4⟩:=altK_spec h
  have e0:=(altT_in h (altK f (sqS t w) w)).e0
  have e1:=altT_e h (altK f (sqS t w) w)
  refine altIv_of h k1 (by omega) (by omega) (by omega) ?_
  have a:=(altT_in h (altK f (sqS t w) w)).2.2.2
  rw [k3,Int.zero_add] at a
  rw [rcA]
  have c1:=cast_le.2 e1
  have z:((16:Int):Rat)=16:=rfl
  have z8:((8:Int):Rat)=8:=rfl
  grind
theorem altR_iv{f:Nat}{t:Dx}{w:Int}(h:Alt f (sqR t w) w (t.rv*t.rv)):AltIv f t w (altR f t w):=by
  obtain ⟨k1,k2,k3,k4⟩:=altK_spec h
  refine altIv_of h (by omega) (by omega) (by omega) (by omega) ?_
  have a:=tmf_end h
  have b:=tmf_twelve h.f1 h.x0 h.x1 k1
  have:=rmR b (rlL (p2_pos w))
  have z:((4:Int):Rat)=4:=rfl
  grind
def c4(a b c d:Dx):List At:=dyL false a ++ (dyL false b ++ (dyL false c ++ dyL false d))
def sG3:List (FuncId×Spec):=[] ++ sG2
theorem sG3_ok:SpecsOk Tryz.prog sG3:=sG2_ok
def sAlt:List (FuncId×Spec):=[(57,rPoint),(61,rTimes),(53,rTrim),(120,seFrom),(122,seOne),(121,seSumA),(126,seWid),(127,seSub),(89,seIval)]
theorem sAlt_ok:SpecsOk Tryz.prog sAlt:=⟨rPoint_ok,rTimes_ok,rTrim_ok,seFrom_ok,seOne_ok,seSumA_ok,seWid_ok,seSub_ok,seIval_ok,trivial⟩
theorem rAlt_vc(t:Dx)(f w:Int)(Q:Tv→Prop):execF ⟨tys4,sAlt⟩ (fun _=>none) 0 Tryz.f78 [.agg (dyL false t),.one (.int .i64 f),.one (.int .i64 w)] Q=(eB 4611686018427387904 t∧eB 4611686018427387904 t∧inR (w+8)∧(Vx.Sm 268435456 (pointV t)∧Vx.Sm 268435456 (pointV t)∧(0:Int)≤w+8∧w+8≤1099511627776)∧inR (w+8)∧(Vx.Sm 34359738368 (timesV (pointV t) (pointV t) (w+8))∧(0:Int)≤w+8∧w+8≤1099511627776)∧(Vx.Sm 268435456 (trimV (timesV (pointV t) (pointV t) (w+8)) (w+8))∧(0:Int)≤w∧w≤16777216∧(0:Int)≤(fromF (trimV (timesV (pointV t) (pointV t) (w+8)) (w+8)) w).e∧(fromF (trimV (timesV (pointV t) (pointV t) (w+8)) (w+8)) w).e≤1099511627776)∧true=true∧((0:Int)≤w∧w≤16777216)∧((123:Nat)=(123:FuncId)∧(fw (Fx.mk ((2:Int)^Int.toNat w) 0)).xs=ws (val (fw (Fx.mk ((2:Int)^Int.toNat w) 0)).xs)∧(fw (fromF (trimV (timesV (pointV t) (pointV t) (w+8)) (w+8)) w)).xs=ws (val (fw (fromF (trimV (timesV (pointV t) (pointV t) (w+8)) (w+8)) w)).xs)∧altSumOk f (Fx.mk (val (fw (fromF (trimV (timesV (pointV t) (pointV t) (w+8)) (w+8)) w)).xs) (fw (fromF (trimV (timesV (pointV t) (pointV t) (w+8)) (w+8)) w)).e) w (Fx.mk (val (fw (Fx.mk ((2:Int)^Int.toNat w) 0)).xs) (fw (Fx.mk ((2:Int)^Int.toNat w) 0)).e))∧((0:Int)≤0∧(0:Int)<(↑(2:Nat):Int))∧((0:Int)≤1∧(1:Int)<(↑(2:Nat):Int))∧((0:Int)≤0∧(0:Int)<(↑(2:Nat):Int))∧(Fw.Ok (fw (altSumR f (Fx.mk (val (fw (fromF (trimV (timesV (pointV t) (pointV t) (w+8)) (w+8)) w)).xs) (fw (fromF (trimV (timesV (pointV t) (pointV t) (w+8)) (w+8)) w)).e) w (Fx.mk (val (fw (Fx.mk ((2:Int)^Int.toNat w) 0)).xs) (fw (Fx.mk ((2:Int)^Int.toNat w) 0)).e) 0))∧(0:Int)≤4∧(4:Int)≤1099511627776∧(fw (altSumR f (Fx.mk (val (fw (fromF (trimV (timesV (pointV t) (pointV t) (w+8)) (w+8)) w)).xs) (fw (fromF (trimV (timesV (pointV t) (pointV t) (w+8)) (w+8)) w)).e) w (Fx.mk (val (fw (Fx.mk ((2:Int)^Int.toNat w) 0)).xs) (fw (Fx.mk ((2:Int)^Int.toNat w) 0)).e) 0)).xs=ws (val (fw (altSumR f (Fx.mk (val (fw (fromF (trimV (timesV (pointV t) (pointV t) (w+8)) (w+8)) w)).xs) (fw (fromF (trimV (timesV (pointV t) (pointV t) (w+8)) (w+8)) w)).e) w (Fx.mk (val (fw (Fx.mk ((2:Int)^Int.toNat w) 0)).xs) (fw (Fx.mk ((2:Int)^Int.toNat w) 0)).e) 0)).xs))∧((0:Int)≤1∧(1:Int)<(↑(2:Nat):Int))∧(Fw.Ok (fw (altSumR f (Fx.mk (val (fw (fromF (trimV (timesV (pointV t) (pointV t) (w+8)) (w+8)) w)).xs) (fw (fromF (trimV (timesV (pointV t) (pointV t) (w+8)) (w+8)) w)).e) w (Fx.mk (val (fw (Fx.mk ((2:Int)^Int.toNat w) 0)).xs) (fw (Fx.mk ((2:Int)^Int.toNat w) 0)).e) 1))∧(0:Int)≤4∧(4:Int)≤1099511627776∧(fw (altSumR f (Fx.mk (val (fw (fromF (trimV (timesV (pointV t) (pointV t) (w+8)) (w+8)) w)).xs) (fw (fromF (trimV (timesV (pointV t) (pointV t) (w+8)) (w+8)) w)).e) w (Fx.mk (val (fw (Fx.mk ((2:Int)^Int.toNat w) 0)).xs) (fw (Fx.mk ((2:Int)^Int.toNat w) 0)).e) 1)).xs=ws (val (fw (altSumR f (Fx.mk (val (fw (fromF (trimV (timesV (pointV t) (pointV t) (w+8)) (w+8)) w)).xs) (fw (fromF (trimV (timesV (pointV t) (pointV t) (w+8)) (w+8)) w)).e) w (Fx.mk (val (fw (Fx.mk ((2:Int)^Int.toNat w) 0)).xs) (fw (Fx.mk ((2:Int)^Int.toNat w) 0)).e) 1)).xs))∧(Fw.Ok (fw (widerF (Fw.f (fw (altSumR f (Fx.mk (val (fw (fromF (trimV (timesV (pointV t) (pointV t) (w+8)) (w+8)) w)).xs) (fw (fromF (trimV (timesV (pointV t) (pointV t) (w+8)) (w+8)) w)).e) w (Fx.mk (val (fw (Fx.mk ((2:Int)^Int.toNat w) 0)).xs) (fw (Fx.mk ((2:Int)^Int.toNat w) 0)).e) 0))) 4))∧Fw.Ok (fw (widerF (Fw.f (fw (altSumR f (Fx.mk (val (fw (fromF (trimV (timesV (pointV t) (pointV t) (w+8)) (w+8)) w)).xs) (fw (fromF (trimV (timesV (pointV t) (pointV t) (w+8)) (w+8)) w)).e) w (Fx.mk (val (fw (Fx.mk ((2:Int)^Int.toNat w) 0)).xs) (fw (Fx.mk ((2:Int)^Int.toNat w) 0)).e) 1))) 4))∧(Fw.f (fw (widerF (Fw.f (fw (altSumR f (Fx.mk (val (fw (fromF (trimV (timesV (pointV t) (pointV t) (w+8)) (w+8)) w)).xs) (fw (fromF (trimV (timesV (pointV t) (pointV t) (w+8)) (w+8)) w)).e) w (Fx.mk (val (fw (Fx.mk ((2:Int)^Int.toNat w) 0)).xs) (fw (Fx.mk ((2:Int)^Int.toNat w) 0)).e) 1))) 4))).a+(Fw.f (fw (widerF (Fw.f (fw (altSumR f (Fx.mk (val (fw (fromF (trimV (timesV (pointV t) (pointV t) (w+8)) (w+8)) w)).xs) (fw (fromF (trimV (timesV (pointV t) (pointV t) (w+8)) (w+8)) w)).e) w (Fx.mk (val (fw (Fx.mk ((2:Int)^Int.toNat w) 0)).xs) (fw (Fx.mk ((2:Int)^Int.toNat w) 0)).e) 1))) 4))).e≤(Fw.f (fw (widerF (Fw.f (fw (altSumR f (Fx.mk (val (fw (fromF (trimV (timesV (pointV t) (pointV t) (w+8)) (w+8)) w)).xs) (fw (fromF (trimV (timesV (pointV t) (pointV t) (w+8)) (w+8)) w)).e) w (Fx.mk (val (fw (Fx.mk ((2:Int)^Int.toNat w) 0)).xs) (fw (Fx.mk ((2:Int)^Int.toNat w) 0)).e) 0))) 4))).a)∧(Fw.Ok (fw (subF (Fw.f (fw (widerF (Fw.f (fw (altSumR f (Fx.mk (val (fw (fromF (trimV (timesV (pointV t) (pointV t) (w+8)) (w+8)) w)).xs) (fw (fromF (trimV (timesV (pointV t) (pointV t) (w+8)) (w+8)) w)).e) w (Fx.mk (val (fw (Fx.mk ((2:Int)^Int.toNat w) 0)).xs) (fw (Fx.mk ((2:Int)^Int.toNat w) 0)).e) 0))) 4))) (Fw.f (fw (widerF (Fw.f (fw (altSumR f (Fx.mk (val (fw (fromF (trimV (timesV (pointV t) (pointV t) (w+8)) (w+8)) w)).xs) (fw (fromF (trimV (timesV (pointV t) (pointV t) (w+8)) (w+8)) w)).e) w (Fx.mk (val (fw (Fx.mk ((2:Int)^Int.toNat w) 0)).xs) (fw (Fx.mk ((2:Int)^Int.toNat w) 0)).e) 1))) 4)))))∧(0:Int)≤w∧w≤16777216)∧true=true∧Q (Tv.sv (Sv.agg (ivL true (ivF (Fw.f (fw (subF (Fw.f (fw (widerF (Fw.f (fw (altSumR f (Fx.mk (val (fw (fromF (trimV (timesV (pointV t) (pointV t) (w+8)) (w+8)) w)).xs) (fw (fromF (trimV (timesV (pointV t) (pointV t) (w+8)) (w+8)) w)).e) w (Fx.mk (val (fw (Fx.mk ((2:Int)^Int.toNat w) 0)).xs) (fw (Fx.mk ((2:Int)^Int.toNat w) 0)).e) 0))) 4))) (Fw.f (fw (widerF (Fw.f (fw (altSumR f (Fx.mk (val (fw (fromF (trimV (timesV (pointV t) (pointV t) (w+8)) (w+8)) w)).xs) (fw (fromF (trimV (timesV (pointV t) (pointV t) (w+8)) (w+8)) w)).e) w (Fx.mk (val (fw (Fx.mk ((2:Int)^Int.toNat w) 0)).xs) (fw (Fx.mk ((2:Int)^Int.toNat w) 0)).e) 1))) 4)))))) w))))):=by kernel_rfl
theorem widerF_2(x:Fx)(a b:Int):widerF (widerF x a) b=widerF x (a+b):=by
  show (⟨x.a,x.e+a+b⟩:Fx)=⟨x.a,x.e+(a+b)⟩
  rw [Int.add_assoc]
theorem pointV_sm{t:Dx}{N:Nat}(ht:0≤t.m)(h:t.Sm N):(pointV t).Sm (N+N):=⟨one_sm ht h,one_sm ht h⟩
theorem trimV_sm{v:Vx}{N:Nat}{p:Int}(hv:v.P)(h:v.Sm N)(hp:0≤p):(trimV v p).Sm (6*N+1):=⟨cutD_sm hv.1 h.1 hp,cutD_sm hv.2 h.2 hp⟩
theorem timesV_sm{v u:Vx}{N:Nat}{p:Int}(hv:v.P)(hu:u.P)(sv:v.Sm N)(su:u.Sm N)(hp:0≤p):(timesV v u p).Sm (24*N+1) :=
  (trimV_sm (prodV_p v u) (prodV_sm hv hu sv su) hp).mono (by omega)
theorem altSum_parts{f:Nat}{sq:Fx}{w:Int}{x:Rat}(h:Alt f sq w x) :
    (altSumR f sq w ⟨2^w.toNat,0⟩ 0).Ok∧(altSumR f sq w ⟨2^w.toNat,0⟩ 1).Ok∧(widerF (altSumR f sq w ⟨2^w.toNat,0⟩ 0) 4).Ok∧(widerF (altSumR f sq w ⟨2^w.toNat,0⟩ 1) 4).Ok ∧
      subF (widerF (altSumR f sq w ⟨2^w.toNat,0⟩ 0) 4) (widerF (altSumR f sq w ⟨2^w.toNat,0⟩ 1) 4)=altD f sq w (altK f sq w) ((altT f sq w (altK f sq w)).e+8):=by
  obtain ⟨k1,k2,k3,k4⟩:=altK_spec h
  have e0:=(altT_in h (altK f sq w)).e0
  have e1:=altT_e h (altK f sq w)
  have hw:=h.w1
  have o0:=altM_ok h 0 (k:=altK f sq w) (by omega)
  have o1:=altM_ok h 1 (k:=altK f sq w) (by omega)
  have m0:=altM_e h 0 (altK f sq w)
  have m1:=altM_e h 1 (altK f sq w)
  have ok:∀ {z:Fx} {c:Int},z.Ok→z.e≤2097152→0≤c→c≤32→(widerF z c).Ok:=fun hz he c0 c1=>⟨hz.1,hz.2.1,show 0≤_+_ by have:=hz.2.2.1;omega,show _+_≤_ by omega⟩
  have d0:altSumR f sq w ⟨2^w.toNat,0⟩ 0=widerF (altM f sq w 0 (altK f sq w)) ((altT f sq w (altK f sq w)).e+4):=rfl
  have d1:altSumR f sq w ⟨2^w.toNat,0⟩ 1=widerF (altM f sq w 1 (altK f sq w)) ((altT f sq w (altK f sq w)).e+4):=rfl
  rw [d0,d1,widerF_2,widerF_2]
  refine ⟨ok o0 (by omega) (by omega) (by omega),ok o1 (by omega) (by omega) (by omega),ok o0 (by omega) (by omega) (by omega),ok o1 (by omega) (by omega) (by omega),?_⟩
  rw [Int.add_assoc];rfl
def small1(t:Dx):Prop:=t.rv≤1∧-1≤t.rv
def rAlt:Spec:=specK [.d,.i .i64,.i .i64] fun (t:Dx) (f:Int) (w:Int)=>(some (t.Sm 131072∧small1 t∧1≤f∧f≤2∧32≤w∧w≤65536),vT (altV f.toNat t w))
theorem rAlt_ok:SpecOk Tryz.prog 78 rAlt :=
  specK_ok (envOk tys4_ok sAlt_ok) mixed Tryz.func78 rfl (by decide) (by decide) fun (t:Dx) ht (f:Int) _ (w:Int) _ hp=>⟨fun _=>none,0,by
    obtain ⟨st,⟨t1,t2⟩,f1,f2,w0,w1⟩:t.Sm 131072∧small1 t∧1≤f∧f≤2∧32≤w∧w≤65536:=hp
    obtain ⟨n,rfl⟩:∃ n:Nat,f=n:=⟨f.toNat,by omega⟩
    have m0:=Dx.Wf.m0 ht
    have A:=sqS_alt m0 t1 t2 (f:=n) (by omega) (by omega) w0 w1
    have so:=A.sqOk
    have z1:=pointV_sm m0 st
    have z2:=timesV_sm (pointV_p t) (pointV_p t) z1 z1 (p:=w+8) (by omega)
    have z3:=trimV_sm (trimV_p _ _) z2 (p:=w+8) (by omega)
    obtain ⟨b1,b2,b3,b4⟩:=altD_bd A (altK_spec A).1 (by have:=(altK_spec A).2.1;omega) (c:=(altT n (sqS t w) w (altK n (sqS t w) w)).e+8) (by have:=(altT_in A (altK n (sqS t w) w)).e0;omega) (by have:=altT_e A (altK n (sqS t w) w);omega)
    obtain ⟨o0,o1,p0,p1,d⟩:=altSum_parts A
    have pw:=two_pow_pos w.toNat
    have k1:Fx.mk (val (fw (fromF (trimV (timesV (pointV t) (pointV t) (w+8)) (w+8)) w)).xs) (fw (fromF (trimV (timesV (pointV t) (pointV t) (w+8)) (w+8)) w)).e=sqS t w:=fw_f so.1
    have k2:Fx.mk (val (fw (Fx.mk ((2:Int)^w.toNat) 0)).xs) (fw (Fx.mk ((2:Int)^w.toNat) 0)).e=⟨2^w.toNat,0⟩:=fw_f (by show 0≤(2:Int)^w.toNat;omega)
    have xs:∀ z:Fx,0≤z.a→(fw z).xs=ws (val (fw z).xs):=fun z hz=>by show ws z.a=ws (val (ws z.a));rw [val_ws hz]
    show execF _ _ _ _ _ (fun t'=>t'=vT (altV n t w))
    refine (rAlt_vc t n w _).mpr ?_
    rw [k1,k2]
    have ok:=altSum_ok A so
    have e0:0≤(sqS t w).e∧(sqS t w).e≤16:=⟨A.hsq.e0,A.he⟩
    generalize altSumR n (sqS t w) w ⟨2^w.toNat,0⟩ 0=a0 at *
    generalize altSumR n (sqS t w) w ⟨2^w.toNat,0⟩ 1=a1 at *
    have le:(widerF a1 4).a+(widerF a1 4).e≤(widerF a0 4).a:=by
      have:(subF (widerF a0 4) (widerF a1 4)).a=(widerF a0 4).a-((widerF a1 4).a+(widerF a1 4).e):=rfl
      rw [d] at this;omega
    have od:(subF (widerF a0 4) (widerF a1 4)).Ok:=by
      rw [d]
      have:blen (altD n (sqS t w) w (altK n (sqS t w) w) ((altT n (sqS t w) w (altK n (sqS t w) w)).e+8)).a≤w.toNat+1+1+1:=blen_pow_le (by rw [Int.pow_succ,Int.pow_succ];omega)
      exact ⟨by omega,by omega,by omega,by omega⟩
    rw [fw_f o0.1,fw_f o1.1,fw_f p0.1,fw_f p1.1,fw_f od.1]
    have pt:eB 4611686018427387904 t:=st.eB (by omega)
    exact ⟨pt,pt,⟨by omega,by omega⟩,⟨z1.mono (by omega),z1.mono (by omega),by omega,by omega⟩,⟨by omega,by omega⟩,⟨z2.mono (by omega),by omega,by omega⟩,⟨z3.mono (by omega),by omega,by omega,e0.1,by have:=e0.2;show (sqS t w).e≤_;omega⟩,rfl,⟨by omega,by omega⟩,
      ⟨rfl,xs _ (by show 0≤(2:Int)^w.toNat;omega),xs _ so.1,ok⟩,⟨by omega,by omega⟩,⟨by omega,by omega⟩,⟨by omega,by omega⟩,⟨o0.w,by omega,by omega,xs _ o0.1⟩,⟨by omega,by omega⟩,⟨o1.w,by omega,by omega,xs _ o1.1⟩,⟨p0.w,p1.w,le⟩,⟨od.w,by omega,by omega⟩,rfl,by rw [d];rfl⟩⟩
theorem AltIv.sm{f:Nat}{t:Dx}{w:Int}{v:Vx}(h:AltIv f t w v)(w0:0≤w)(w1:w≤65536):v.Sm 262144:=by
  obtain ⟨a,b,a0,a1,b0,b1,rfl⟩:=h.bits
  have k:∀ n:Int,n≤3*2^w.toNat→blen n≤w.toNat+1+1+1:=fun n hn=>blen_pow_le (by rw [Int.pow_succ,Int.pow_succ];have:=two_pow_pos w.toNat;omega)
  exact ⟨(mkD_sm (M:=65536) a0 (k a a1) (by omega) (by omega)).mono (by omega),(mkD_sm (M:=65536) b0 (k b b1) (by omega) (by omega)).mono (by omega)⟩
def sSin:List (FuncId×Spec):=[(78,rAlt),(77,rInt)] ++ sRaw8
theorem sSin_ok:SpecsOk Tryz.prog sSin:=⟨rAlt_ok,rInt_ok,sRaw8_ok⟩
def sineV(t:Dx)(p:Int):Vx:=if t.zeroB=true then zeroIv else timesV (trimV (pointV t) (p+64)) (altV 2 t (p+64)) (p+64)
def cosineV(t:Dx)(p:Int):Vx:=if t.zeroB=true then pointV (mkS 1 0) else altV 1 t (p+64)
def rSine:Spec:=specK [.d,.i .i64] fun (t:Dx) (p:Int)=>(some (t.Sm 131072∧small1 t∧0≤p∧p≤60000),vF (sineV t p))
theorem rSine_vc(t:Dx)(p:Int)(Q:Tv→Prop):execF ⟨tys4,sSin⟩ (fun _=>none) 0 Tryz.f38 [.agg (dyL false t),.one (.int .i64 p)] Q=(br (Dx.zeroB t) (Q (Tv.sv (Sv.agg [At.bool false,At.words true [],At.int .i64 0,At.bool false,At.words true [],At.int .i64 0]))) (inR (p+64)∧eB 4611686018427387904 t∧(Vx.Sm 34359738368 (pointV t)∧(0:Int)≤p+64∧p+64≤1099511627776)∧(Dx.Sm 131072 t∧small1 t∧(1:Int)≤2∧(2:Int)≤2∧(32:Int)≤p+64∧p+64≤65536)∧(Vx.Sm 268435456 (trimV (pointV t) (p+64))∧Vx.Sm 268435456 (altV 2 t (p+64))∧(0:Int)≤p+64∧p+64≤1099511627776)∧true=true∧Q (Tv.sv (Sv.agg (ivL true (timesV (trimV (pointV t) (p+64)) (altV 2 t (p+64)) (p+64))))))):=by kernel_rfl
theorem altV_sm{t:Dx}{f:Nat}{w:Int}(ht:0≤t.m)(h:small1 t)(f1:1≤f)(f2:f≤2)(w0:32≤w)(w1:w≤65536):(altV f t w).Sm 262144 :=
  (altV_iv (sqS_alt ht h.1 h.2 f1 f2 w0 w1)).sm (by omega) w1
theorem rSine_ok:SpecOk Tryz.prog 38 rSine :=
  specKW_ok (envOk tys4_ok sSin_ok) mixed Tryz.func38 rfl (by decide) (by decide) fun (t:Dx) ht (p:Int) _ hp=>⟨fun _=>none,0,by
    obtain ⟨st,h1,p0,p1⟩:t.Sm 131072∧small1 t∧0≤p∧p≤60000:=hp
    have m0:=Dx.Wf.m0 ht
    have z1:=pointV_sm m0 st
    have z2:=trimV_sm (pointV_p t) z1 (p:=p+64) (by omega)
    have z3:=altV_sm m0 h1 (f:=2) (w:=p+64) (by omega) (by omega) (by omega) (by omega)
    show execF _ _ _ _ _ (fun t'=>t'=vF (sineV t p)∨fgT t'=vF (sineV t p))
    refine (rSine_vc t p _).mpr (br_intro (fun h=>.inr ?_) fun h=>⟨⟨by omega,by omega⟩,st.eB (by omega),⟨z1.mono (by omega),by omega,by omega⟩,⟨st,h1,by omega,by omega,by omega,by omega⟩,⟨z2.mono (by omega),z3.mono (by omega),by omega,by omega⟩,rfl,.inr ?_⟩)
    · rw [sineV,if_pos h];rfl
    · rw [sineV,if_neg (by rw [h];simp)];rfl⟩
def rCosine:Spec:=specK [.d,.i .i64] fun (t:Dx) (p:Int)=>(some (t.Sm 131072∧small1 t∧0≤p∧p≤60000),vT (cosineV t p))
theorem rCosine_vc(t:Dx)(p:Int)(Q:Tv→Prop):execF ⟨tys4,sSin⟩ (fun _=>none) 0 Tryz.f39 [.agg (dyL false t),.one (.int .i64 p)] Q=(br (Dx.zeroB t) (inR 1∧eB 4611686018427387904 (mkS 1 0)∧Q (Tv.sv (Sv.agg (ivL true (pointV (mkS 1 0)))))) (inR (p+64)∧(Dx.Sm 131072 t∧small1 t∧(1:Int)≤1∧(1:Int)≤2∧(32:Int)≤p+64∧p+64≤65536)∧Q (Tv.sv (Sv.agg (ivL true (altV 1 t (p+64))))))):=by kernel_rfl
theorem mkS_sm6{n:Int}(h:n.natAbs≤16):(mkS n 0).Sm 5:=(mkS_sm (N:=5) (M:=0) (blen_le (by omega)) (by omega) (by omega)).mono (by omega)
theorem one_eB:eB 4611686018427387904 (mkS 1 0):=(mkS_sm6 (by omega)).eB (by omega)
theorem rCosine_ok:SpecOk Tryz.prog 39 rCosine :=
  specK_ok (envOk tys4_ok sSin_ok) mixed Tryz.func39 rfl (by decide) (by decide) fun (t:Dx) ht (p:Int) _ hp=>⟨fun _=>none,0,by
    obtain ⟨st,h1,p0,p1⟩:t.Sm 131072∧small1 t∧0≤p∧p≤60000:=hp
    show execF _ _ _ _ _ (fun t'=>t'=vT (cosineV t p))
    refine (rCosine_vc t p _).mpr (br_intro (fun h=>⟨⟨by omega,by omega⟩,one_eB,?_⟩) fun h=>⟨⟨by omega,by omega⟩,⟨st,h1,by omega,by omega,by omega,by omega⟩,?_⟩)
    · rw [cosineV,if_pos h]
    · rw [cosineV,if_neg (by rw [h];simp)]⟩
def tyNum:TyRow:=⟨130,3,true,zD,.struct [(0,1,false),(1,1,false),(2,1,false)]⟩
theorem tyN_ok:RowsOk Tryz.prog (tyNum :: tys4):=⟨by kernel_rfl,tys4_ok⟩
def dRight:Spec:=specK [.d] fun (d:Dx)=>(none,bT d.fitsB)
theorem dRight_vc(d:Dx)(Q:Tv→Prop):execF ⟨tyNum :: tys4,sRaw8⟩ (fun _=>none) 0 Tryz.f118 [.agg (dyL false d)] Q=(Q (bT (Dx.fitsB d))):=by kernel_rfl
theorem dRight_ok:SpecOk Tryz.prog 118 dRight :=
  specK_ok (envOk tyN_ok sRaw8_ok) mixed Tryz.func118 rfl (by decide) (by decide) fun (d:Dx) _ _=>⟨fun _=>none,0,(dRight_vc d _).mpr rfl⟩
def chkD(d:Dx):Int:=if d.fitsB=true then 0 else 2
def dChk:Spec:=specK [.d] fun (d:Dx)=>(none,iT (chkD d))
theorem dChk_vc(d:Dx)(Q:Tv→Prop):execF ⟨tyNum :: tys4,[(118,dRight)]⟩ (fun _=>none) 0 Tryz.f75 [.agg (dyL false d)] Q=(br (!Dx.fitsB d) (Q (iT 2)) (Q (iT 0))):=by kernel_rfl
theorem dChk_ok:SpecOk Tryz.prog 75 dChk :=
  specK_ok (envOk (S:=[(118,dRight)]) tyN_ok ⟨dRight_ok,trivial⟩) mixed Tryz.func75 rfl (by decide) (by decide) fun (d:Dx) _ _=>⟨fun _=>none,0,by
    show execF _ _ _ _ _ (fun t=>t=iT (chkD d))
    refine (dChk_vc d _).mpr (br_intro (fun h=>?_) fun h=>?_)
    · rw [chkD,if_neg (by rw [not_true h];simp)]
    · rw [chkD,if_pos (not_false' h)]⟩
def cutR(v:Vx)(p:Int):Vx×Int:=if rightV (trimV v (p+8))=true then (trimV v (p+8),0) else (zeroIv,3)
def rCutV:Spec:=specK [.v,.i .i64] fun (v:Vx) (p:Int)=>(some (v.Sm 34359738368∧0≤p∧p≤1073741824),reT (cutR v p))
theorem rCutV_vc(v:Vx)(p:Int)(Q:Tv→Prop):execF ⟨tys4,sSin⟩ (fun _=>none) 0 Tryz.f37 [.agg (ivL false v),.one (.int .i64 p)] Q=(inR (p+8)∧(Vx.Sm 34359738368 v∧(0:Int)≤p+8∧p+8≤1099511627776)∧br (!rightV (trimV v (p+8))) (Q (Tv.tup [Sv.agg [At.bool false,At.words true [],At.int .i64 0,At.bool false,At.words true [],At.int .i64 0],Sv.one (At.int .i64 3)])) (Q (Tv.tup [Sv.agg (ivL true (trimV v (p+8))),Sv.one (At.int .i64 0)]))):=by kernel_rfl
theorem rCutV_ok:SpecOk Tryz.prog 37 rCutV :=
  specKW_ok (envOk tys4_ok sSin_ok) mixed Tryz.func37 rfl (by decide) (by decide) fun (v:Vx) _ (p:Int) _ hp=>⟨fun _=>none,0,by
    obtain ⟨sv,p0,p1⟩:v.Sm 34359738368∧0≤p∧p≤1073741824:=hp
    show execF _ _ _ _ _ (fun t=>t=reT (cutR v p)∨fgT t=reT (cutR v p))
    refine (rCutV_vc v p _).mpr ⟨⟨by omega,by omega⟩,⟨sv,by omega,by omega⟩,br_intro (fun h=>.inr ?_) fun h=>.inr ?_⟩
    · rw [cutR,if_neg (by rw [not_true h];simp)];rfl
    · rw [cutR,if_pos (not_false' h)];rfl⟩
def sSin2:List (FuncId×Spec):=[(38,rSine),(39,rCosine),(37,rCutV),(75,dChk),(40,vCk)] ++ sSin
theorem sSin2_ok:SpecsOk Tryz.prog sSin2:=⟨rSine_ok,rCosine_ok,rCutV_ok,dChk_ok,vCk_ok,sSin_ok⟩
def faultD(t:Dx)(p:Int):Int:=if chkD t=0∧8≤p∧p≤4096 then (if 0<cmpD (absD t) (mkS 1 0) then 5 else 0) else 2
def rFault:Spec:=specK [.d,.i .i64] fun (t:Dx) (p:Int)=>(none,iT (faultD t p))
theorem rFault_vc(t:Dx)(p:Int)(Q:Tv→Prop):execF ⟨tys4,sSin2⟩ (fun _=>none) 0 Tryz.f36 [.agg (dyL false t),.one (.int .i64 p)] Q=(br (neI (chkD t) 0) (Q (iT 2)) (br (ltI p 8) (Q (iT 2)) (br (ltI 4096 p) (Q (iT 2)) (((-4611686018427387904:Int)≤t.e∧t.e≤4611686018427387904)∧inR 1∧(Dx.Sm 68719476736 (absD t)∧Dx.Sm 68719476736 (mkS 1 0))∧br (ltI 0 (cmpD (absD t) (mkS 1 0))) (Q (iT 5)) (Q (iT 0)))))):=by kernel_rfl
theorem chk_fits{t:Dx}(h:chkD t=0):t.fitsB=true:=by
  unfold chkD at h;split at h
  · assumption
  · omega
theorem rFault_ok:SpecOk Tryz.prog 36 rFault :=
  specK_ok (envOk tys4_ok sSin2_ok) mixed Tryz.func36 rfl (by decide) (by decide) fun (t:Dx) ht (p:Int) _ _=>⟨fun _=>none,0,by
    have m0:=Dx.Wf.m0 ht
    show execF _ _ _ _ _ (fun t'=>t'=iT (faultD t p))
    refine (rFault_vc t p _).mpr (br_intro (fun h=>?_) fun h=>br_intro (fun h1=>?_) fun h1=>br_intro (fun h2=>?_) fun h2=>?_)
    · rw [faultD,if_neg (by have:=neI_true.1 h;omega)]
    · rw [faultD,if_neg (by have:=ltI_true.1 h1;omega)]
    · rw [faultD,if_neg (by have:=ltI_true.1 h2;omega)]
    · have h0:=neI_false.1 h
      have h1:=ltI_false.1 h1
      have h2:=ltI_false.1 h2
      have st:=fits_sm (chk_fits h0)
      rw [faultD,if_pos ⟨h0,by omega,by omega⟩]
      refine ⟨st.eB (by omega),⟨by omega,by omega⟩,⟨(absD_sm m0 st).mono (by omega),(mkS_sm6 (n:=1) (by omega)).mono (by omega)⟩,br_intro (fun h3=>?_) fun h3=>?_⟩
      · rw [if_pos (ltI_true.1 h3)]
      · rw [if_neg (ltI_false.1 h3)]⟩
theorem rv_int(n:Int):(mkS n 0).rv=(n:Rat):=by rw [rv_mkS,p2_zero,Rat.mul_one]
theorem fault0{t:Dx}{p:Int}(ht:0≤t.m)(h:faultD t p=0):t.fitsB=true∧8≤p∧p≤4096∧small1 t:=by
  unfold faultD at h
  split at h
  · rename_i k
    split at h
    · omega
    · rename_i k2
      refine ⟨chk_fits k.1,k.2.1,k.2.2,?_⟩
      have k3:=cmpD_gt0 (a:=absD t) (b:=mkS 1 0)
      have k4:(absD t).rv≤1:=by
        have e:(mkS 1 0).rv=1:=rv_int 1
        rw [e] at k3
        grind
      rw [rv_abs ht] at k4
      obtain ⟨a1,a2⟩:=rv_amt ht
      rcases (show 0≤t.rv∨t.rv≤0 by grind) with c | c
      · have:=a1 c;exact ⟨by grind,by grind⟩
      · have:=a2 c;exact ⟨by grind,by grind⟩
  · omega
theorem small_one{t:Dx}(ht:0≤t.m)(h:small1 t):small1 (oneD t):=by unfold small1;rw [rv_one ht];exact h
theorem rBoth1_vc(t:Dx)(p:Int)(Q:Tv→Prop):execF ⟨tys4,sSin2⟩ (fun _=>none) 0 Tryz.f42 [.agg (dyL false t),.one (.ref [.int .i64 p])] Q=((Dx.Sm 131072 t∧small1 t∧(0:Int)≤p∧p≤60000)∧Q (Tv.sv (Sv.agg (ivL false (sineV t p))))):=by kernel_rfl
def preS(t:Dx)(p:Int):Prop:=t.Sm 131072∧small1 t∧0≤p∧p≤60000
def wBo(fS:Dx→Int→Vx)(pr:Dx→Int→Prop):Spec:=fun l=>match l with
  | [.agg [.bool n,.words false x,.int .i64 e],.one (.ref [.int .i64 p])]=>(some (pr ⟨n,x,e⟩ p),vF (fS ⟨n,x,e⟩ p))
  | _=>noSpec
theorem rBoth1_ok:SpecOk Tryz.prog 42 (wBo sineV preS) :=
  specOk_at (envOk tys4_ok sSin2_ok) mixed Tryz.func42 rfl (by decide) 2 (by decide) fun l p t e hp=>by
    unfold wBo at e
    split at e
    · rename_i n x e0 q
      cases e
      exact ⟨Nat.le_refl 2,fun _=>none,0,(rBoth1_vc ⟨n,x,e0⟩ q _).mpr ⟨hp,rfl⟩⟩
    · cases e;exact hp.elim
theorem rRise_vc(v:Vx)(fS:Dx→Int→Vx)(pr:Dx→Int→Prop)(p:Int)(Q:Tv→Prop):execF ⟨tys4,[(42,wBo fS pr)]⟩ (fun _=>none) 0 Tryz.f41 [.agg (ivL false v),.one (.fn 42 [.ref [.int .i64 p]])] Q=(pr v.lo p∧pr v.hi p∧true=true∧Q (Tv.sv (Sv.agg (ivL false (Vx.mk (fS v.lo p).lo (fS v.hi p).hi))))):=by kernel_rfl
def sinesV(v:Vx)(p:Int):Vx:=⟨(sineV v.lo p).lo,(sineV v.hi p).hi⟩
def rRise:Spec:=fun l=>match l with
  | [.agg [.bool n,.words false x,.int .i64 e,.bool n',.words false x',.int .i64 e'],.one (.fn f [.ref [.int .i64 p]])] =>
    (some (f=42∧preS ⟨n,x,e⟩ p∧preS ⟨n',x',e'⟩ p),vF (sinesV ⟨⟨n,x,e⟩,⟨n',x',e'⟩⟩ p))
  | _=>noSpec
theorem rRise_ok:SpecOk Tryz.prog 41 rRise :=
  specOk_at (envOk (S:=[(42,wBo sineV preS)]) tys4_ok ⟨rBoth1_ok,trivial⟩) mixed Tryz.func41 rfl (by decide) 2 (by decide) fun l p t e hp=>by
    unfold rRise at e
    split at e
    · rename_i n x e0 n' x' e0' f q
      cases e
      obtain ⟨rfl,h1,h2⟩:=hp
      exact ⟨Nat.le_refl 2,fun _=>none,0,(rRise_vc ⟨⟨n,x,e0⟩,⟨n',x',e0'⟩⟩ sineV preS q _).mpr ⟨h1,h2,rfl,rfl⟩⟩
    · cases e;exact hp.elim
def cosinesV(v:Vx)(p:Int):Vx :=
  let out:=spanL (cosineV v.lo p).lo [(cosineV v.lo p).hi,(cosineV v.hi p).lo,(cosineV v.hi p).hi]
  if zeroV v=true then ⟨out.lo,mkS 1 0⟩ else out
def rCss:Spec:=specK [.v,.i .i64] fun (v:Vx) (p:Int)=>(some (preS v.lo p∧preS v.hi p),vF (cosinesV v p))
theorem rCss_vc(v:Vx)(p:Int)(Q:Tv→Prop):execF ⟨tys4,sSin2⟩ (fun _=>none) 0 Tryz.f43 [.agg (ivL false v),.one (.int .i64 p)] Q=((Dx.Sm 131072 v.lo∧small1 v.lo∧(0:Int)≤p∧p≤60000)∧(Dx.Sm 131072 v.hi∧small1 v.hi∧(0:Int)≤p∧p≤60000)∧true=true∧(Dx.Sm 68719476736 (cosineV v.lo p).lo∧Dx.Sm 68719476736 (cosineV v.lo p).hi∧Dx.Sm 68719476736 (cosineV v.hi p).lo∧Dx.Sm 68719476736 (cosineV v.hi p).hi)∧br (zeroV v) (inR 1∧Q (Tv.sv (Sv.agg (At.bool (spanL (cosineV v.lo p).lo [(cosineV v.lo p).hi,(cosineV v.hi p).lo,(cosineV v.hi p).hi]).lo.neg :: At.words false (spanL (cosineV v.lo p).lo [(cosineV v.lo p).hi,(cosineV v.hi p).lo,(cosineV v.hi p).hi]).lo.xs :: At.int .i64 (spanL (cosineV v.lo p).lo [(cosineV v.lo p).hi,(cosineV v.hi p).lo,(cosineV v.hi p).hi]).lo.e :: dyL true (mkS 1 0))))) (Q (Tv.sv (Sv.agg (ivL false (spanL (cosineV v.lo p).lo [(cosineV v.lo p).hi,(cosineV v.hi p).lo,(cosineV v.hi p).hi])))))):=by kernel_rfl
theorem cosineV_sm{t:Dx}{p:Int}(ht:0≤t.m)(h:preS t p):(cosineV t p).Sm 262144:=by
  obtain ⟨st,h1,p0,p1⟩:=h
  unfold cosineV
  split
  · exact (pointV_sm mkS_p (mkS_sm6 (n:=1) (by omega))).mono (by omega)
  · exact altV_sm ht h1 (by omega) (by omega) (by omega) (by omega)
theorem rCss_ok:SpecOk Tryz.prog 43 rCss :=
  specKW_ok (envOk tys4_ok sSin2_ok) mixed Tryz.func43 rfl (by decide) (by decide) fun (v:Vx) hv (p:Int) _ hp=>⟨fun _=>none,0,by
    obtain ⟨h1,h2⟩:preS v.lo p∧preS v.hi p:=hp
    have hv:=Vx.Wf.p hv
    have z1:=cosineV_sm hv.1 h1
    have z2:=cosineV_sm hv.2 h2
    show execF _ _ _ _ _ (fun t=>t=vF (cosinesV v p)∨fgT t=vF (cosinesV v p))
    refine (rCss_vc v p _).mpr ⟨h1,h2,rfl,⟨z1.1.mono (by omega),z1.2.mono (by omega),z2.1.mono (by omega),z2.2.mono (by omega)⟩,br_intro (fun h=>⟨⟨by omega,by omega⟩,.inr ?_⟩) fun h=>.inl ?_⟩
    · rw [cosinesV,if_pos h];rfl
    · rw [cosinesV,if_neg (by rw [h];simp)];rfl⟩
def sSin3:List (FuncId×Spec):=[(21,rOne),(38,rSine),(39,rCosine),(37,rCutV),(36,rFault),(41,rRise),(43,rCss),(40,vCk)]
theorem sSin3_ok:SpecsOk Tryz.prog sSin3:=⟨rOne_ok,rSine_ok,rCosine_ok,rCutV_ok,rFault_ok,rRise_ok,rCss_ok,vCk_ok,trivial⟩
def sinR(t:Dx)(p:Int):Vx×Int:=if faultD t p=0 then cutR (sineV (oneD t) p) p else (zeroIv,faultD t p)
def cosR(t:Dx)(p:Int):Vx×Int:=if faultD t p=0 then cutR (cosineV (oneD t) p) p else (zeroIv,faultD t p)
theorem fault_pre{t:Dx}{p:Int}(ht:0≤t.m)(h:faultD t p=0):preS (oneD t) p:=by
  obtain ⟨h1,h2,h3,h4⟩:=fault0 ht h
  exact ⟨one_sm ht (fits_sm h1),small_one ht h4,by omega,by omega⟩
theorem sineV_sm{t:Dx}{p:Int}(ht:0≤t.m)(h:preS t p):(sineV t p).Sm 67108864:=by
  obtain ⟨st,h1,p0,p1⟩:=h
  unfold sineV
  split
  · have z:(⟨false,[],0⟩:Dx).Sm 67108864:=⟨by decide,by decide,by decide⟩
    exact ⟨z,z⟩
  · have z2:=trimV_sm (pointV_p t) (pointV_sm ht st) (p:=p+64) (by omega)
    have z3:=(altV_sm ht h1 (f:=2) (w:=p+64) (by omega) (by omega) (by omega) (by omega)).mono (show 262144≤6*(131072+131072)+1 by omega)
    exact (timesV_sm (trimV_p _ _) ⟨mkD_p,mkD_p⟩ z2 z3 (p:=p+64) (by omega)).mono (by omega)
def rSin:Spec:=specK [.d,.i .i64] fun (t:Dx) (p:Int)=>(none,reT (sinR t p))
theorem rSin_vc(t:Dx)(p:Int)(Q:Tv→Prop):execF ⟨tys4,sSin3⟩ (fun _=>none) 0 Tryz.f11 [.agg (dyL false t),.one (.int .i64 p)] Q=(br (neI (faultD t p) 0) (Q (Tv.tup [Sv.agg [At.bool false,At.words true [],At.int .i64 0,At.bool false,At.words true [],At.int .i64 0],Sv.one (At.int .i64 (faultD t p))])) (((-4611686018427387904:Int)≤t.e∧t.e≤4611686018427387904)∧(Dx.Sm 131072 (oneD t)∧small1 (oneD t)∧(0:Int)≤p∧p≤60000)∧(Vx.Sm 34359738368 (sineV (oneD t) p)∧(0:Int)≤p∧p≤1073741824)∧Q (Tv.tup [Sv.agg (ivL false (cutR (sineV (oneD t) p) p).fst),Sv.one (At.int .i64 (cutR (sineV (oneD t) p) p).snd)]))):=by kernel_rfl
theorem rSin_ok:SpecOk Tryz.prog 11 rSin :=
  specKW_ok (envOk tys4_ok sSin3_ok) mixed Tryz.func11 rfl (by decide) (by decide) fun (t:Dx) ht (p:Int) _ _=>⟨fun _=>none,0,by
    have m0:=Dx.Wf.m0 ht
    show execF _ _ _ _ _ (fun t'=>t'=reT (sinR t p)∨fgT t'=reT (sinR t p))
    refine (rSin_vc t p _).mpr (br_intro (fun h=>.inr ?_) fun h=>?_)
    · rw [sinR,if_neg (neI_true.1 h)];rfl
    · have h:=neI_false.1 h
      have pr:=fault_pre m0 h
      have st:=fits_sm (fault0 m0 h).1
      have pp:=(fault0 m0 h).2
      exact ⟨st.eB (by omega),pr,⟨(sineV_sm oneD_p pr).mono (by omega),by omega,by omega⟩,.inl (by rw [sinR,if_pos h];rfl)⟩⟩
def rCos:Spec:=specK [.d,.i .i64] fun (t:Dx) (p:Int)=>(none,reT (cosR t p))
theorem rCos_vc(t:Dx)(p:Int)(Q:Tv→Prop):execF ⟨tys4,sSin3⟩ (fun _=>none) 0 Tryz.f12 [.agg (dyL false t),.one (.int .i64 p)] Q=(br (neI (faultD t p) 0) (Q (Tv.tup [Sv.agg [At.bool false,At.words true [],At.int .i64 0,At.bool false,At.words true [],At.int .i64 0],Sv.one (At.int .i64 (faultD t p))])) (((-4611686018427387904:Int)≤t.e∧t.e≤4611686018427387904)∧(Dx.Sm 131072 (oneD t)∧small1 (oneD t)∧(0:Int)≤p∧p≤60000)∧(Vx.Sm 34359738368 (cosineV (oneD t) p)∧(0:Int)≤p∧p≤1073741824)∧Q (Tv.tup [Sv.agg (ivL false (cutR (cosineV (oneD t) p) p).fst),Sv.one (At.int .i64 (cutR (cosineV (oneD t) p) p).snd)]))):=by kernel_rfl
theorem rCos_ok:SpecOk Tryz.prog 12 rCos :=
  specKW_ok (envOk tys4_ok sSin3_ok) mixed Tryz.func12 rfl (by decide) (by decide) fun (t:Dx) ht (p:Int) _ _=>⟨fun _=>none,0,by
    have m0:=Dx.Wf.m0 ht
    show execF _ _ _ _ _ (fun t'=>t'=reT (cosR t p)∨fgT t'=reT (cosR t p))
    refine (rCos_vc t p _).mpr (br_intro (fun h=>.inr ?_) fun h=>?_)
    · rw [cosR,if_neg (neI_true.1 h)];rfl
    · have h:=neI_false.1 h
      have pr:=fault_pre m0 h
      have st:=fits_sm (fault0 m0 h).1
      have pp:=(fault0 m0 h).2
      exact ⟨st.eB (by omega),pr,⟨(cosineV_sm oneD_p pr).mono (by omega),by omega,by omega⟩,.inl (by rw [cosR,if_pos h];rfl)⟩⟩
def reT2(r:(Vx×Vx)×Int):Tv:=.tup [.agg (ivL false r.1.1),.agg (ivL false r.1.2),.one (.int .i64 r.2)]
def onesV(v:Vx):Vx:=⟨oneD v.lo,oneD v.hi⟩
def both2(s c:Vx×Int):(Vx×Vx)×Int:=if s.2=0∧c.2=0 then ((s.1,c.1),0) else ((zeroIv,zeroIv),3)
def bothR(v:Vx)(p:Int):(Vx×Vx)×Int :=
  if checkR v=0 then if faultD v.lo p=0 then if faultD v.hi p=0 then both2 (cutR (sinesV (onesV v) p) p) (cutR (cosinesV (onesV v) p) p) else ((zeroIv,zeroIv),faultD v.hi p) else ((zeroIv,zeroIv),faultD v.lo p) else ((zeroIv,zeroIv),2)
def rBoth:Spec:=specK [.v,.i .i64] fun (v:Vx) (p:Int)=>(none,reT2 (bothR v p))
theorem rBoth_vc(v:Vx)(p:Int)(Q:Tv→Prop):execF ⟨tyDs :: tys4,sSin3⟩ (fun _=>none) 3 Tryz.f14 [.agg (ivL false v),.one (.int .i64 p)] Q=(br (neI (checkR v) 0) (Q (Tv.tup [Sv.agg [At.bool false,At.words true [],At.int .i64 0,At.bool false,At.words true [],At.int .i64 0],Sv.agg [At.bool false,At.words true [],At.int .i64 0,At.bool false,At.words true [],At.int .i64 0],Sv.one (At.int .i64 2)])) (((0:Int)≤0∧(0:Int)<(↑(2:Nat):Int))∧br (neI (faultD v.lo p) 0) (Q (Tv.tup [Sv.agg [At.bool false,At.words true [],At.int .i64 0,At.bool false,At.words true [],At.int .i64 0],Sv.agg [At.bool false,At.words true [],At.int .i64 0,At.bool false,At.words true [],At.int .i64 0],Sv.one (At.int .i64 (faultD v.lo p))])) (inR ((0:Int)+1)∧((0:Int)≤0+1∧(0:Int)+1<(↑(2:Nat):Int))∧br (neI (faultD v.hi p) 0) (Q (Tv.tup [Sv.agg [At.bool false,At.words true [],At.int .i64 0,At.bool false,At.words true [],At.int .i64 0],Sv.agg [At.bool false,At.words true [],At.int .i64 0,At.bool false,At.words true [],At.int .i64 0],Sv.one (At.int .i64 (faultD v.hi p))])) (inR ((0:Int)+1+1)∧((-4611686018427387904:Int)≤v.lo.e∧v.lo.e≤4611686018427387904)∧((-4611686018427387904:Int)≤v.hi.e∧v.hi.e≤4611686018427387904)∧true=true∧((42:Nat)=(42:FuncId)∧preS (oneD v.lo) p∧preS (oneD v.hi) p)∧(Vx.Sm 34359738368 (sinesV (Vx.mk (oneD v.lo) (oneD v.hi)) p)∧(0:Int)≤p∧p≤1073741824)∧true=true∧(preS (oneD v.lo) p∧preS (oneD v.hi) p)∧(Vx.Sm 34359738368 (cosinesV (Vx.mk (oneD v.lo) (oneD v.hi)) p)∧(0:Int)≤p∧p≤1073741824)∧true=true∧br (neI (cutR (sinesV (Vx.mk (oneD v.lo) (oneD v.hi)) p) p).snd 0) (Q (Tv.tup [Sv.agg [At.bool false,At.words true [],At.int .i64 0,At.bool false,At.words true [],At.int .i64 0],Sv.agg [At.bool false,At.words true [],At.int .i64 0,At.bool false,At.words true [],At.int .i64 0],Sv.one (At.int .i64 3)])) (br (neI (cutR (cosinesV (Vx.mk (oneD v.lo) (oneD v.hi)) p) p).snd 0) (Q (Tv.tup [Sv.agg [At.bool false,At.words true [],At.int .i64 0,At.bool false,At.words true [],At.int .i64 0],Sv.agg [At.bool false,At.words true [],At.int .i64 0,At.bool false,At.words true [],At.int .i64 0],Sv.one (At.int .i64 3)])) (true=true∧Q (Tv.tup [Sv.agg (ivL false (cutR (sinesV (Vx.mk (oneD v.lo) (oneD v.hi)) p) p).fst),Sv.agg (ivL false (cutR (cosinesV (Vx.mk (oneD v.lo) (oneD v.hi)) p) p).fst),Sv.one (At.int .i64 0)]))))))):=by kernel_rfl
theorem cosinesV_sm{v:Vx}{p:Int}(hv:v.P)(h1:preS v.lo p)(h2:preS v.hi p):(cosinesV v p).Sm 262144:=by
  have z1:=cosineV_sm hv.1 h1
  have z2:=cosineV_sm hv.2 h2
  have z:=span4_sm z1.1 z1.2 z2.1 z2.2
  unfold cosinesV
  show Vx.Sm 262144 (if _ then _ else _)
  split
  · exact ⟨z.1,(mkS_sm6 (n:=1) (by omega)).mono (by omega)⟩
  · exact z
theorem rBoth_ok:SpecOk Tryz.prog 14 rBoth :=
  specKW_ok (envOk (T:=tyDs :: tys4) ⟨by kernel_rfl,tys4_ok⟩ sSin3_ok) mixed Tryz.func14 rfl (by decide) (by decide) fun (v:Vx) hv (p:Int) _ _=>⟨fun _=>none,3,by
    have hv:=Vx.Wf.p hv
    show execF _ _ _ _ _ (fun t'=>t'=reT2 (bothR v p)∨fgT t'=reT2 (bothR v p))
    refine (rBoth_vc v p _).mpr (br_intro (fun h=>.inr ?_) fun h=>⟨⟨by omega,by omega⟩,br_intro (fun h1=>.inr ?_) fun h1=>⟨⟨by omega,by omega⟩,⟨by omega,by omega⟩,br_intro (fun h2=>.inr ?_) fun h2=>?_⟩⟩)
    · rw [bothR,if_neg (neI_true.1 h)];rfl
    · rw [bothR,if_pos (neI_false.1 h),if_neg (neI_true.1 h1)];rfl
    · rw [bothR,if_pos (neI_false.1 h),if_pos (neI_false.1 h1),if_neg (neI_true.1 h2)];rfl
    · have h1:=neI_false.1 h1
      have h2:=neI_false.1 h2
      have p1:=fault_pre hv.1 h1
      have p2:=fault_pre hv.2 h2
      have s1:=fits_sm (fault0 hv.1 h1).1
      have s2:=fits_sm (fault0 hv.2 h2).1
      have pp:=(fault0 hv.1 h1).2
      have z1:(sinesV (onesV v) p).Sm 67108864:=⟨(sineV_sm oneD_p p1).1,(sineV_sm oneD_p p2).2⟩
      have z2:=cosinesV_sm (v:=onesV v) ⟨oneD_p,oneD_p⟩ p1 p2
      have goal:bothR v p=both2 (cutR (sinesV (onesV v) p) p) (cutR (cosinesV (onesV v) p) p):=by rw [bothR,if_pos (neI_false.1 h),if_pos h1,if_pos h2]
      rw [goal]
      refine ⟨⟨by omega,by omega⟩,s1.eB (by omega),s2.eB (by omega),rfl,⟨rfl,p1,p2⟩,⟨z1.mono (by omega),by omega,by omega⟩,rfl,⟨p1,p2⟩,⟨z2.mono (by omega),by omega,by omega⟩,rfl,br_intro (fun h3=>.inr ?_) fun h3=>br_intro (fun h4=>.inr ?_) fun h4=>⟨rfl,.inl ?_⟩⟩
      · rw [both2,if_neg (fun k=>neI_true.1 h3 k.1)];rfl
      · rw [both2,if_neg (fun k=>neI_true.1 h4 k.2)];rfl
      · rw [both2,if_pos ⟨neI_false.1 h3,neI_false.1 h4⟩];rfl⟩
def sineH(t:Dx)(p:Int):Vx:=if t.zeroB=true then zeroIv else timesV (pointV t) (altR 2 t (p+48)) (p+48)
def cosineH(t:Dx)(p:Int):Vx:=altR 1 t (p+48)
def sinH(t:Dx)(p:Int):Vx×Int:=if faultD t p=0 then (sineH t p,0) else (zeroIv,faultD t p)
def hullV(a b:Vx):Vx:=⟨if cmpD b.lo a.lo<0 then b.lo else a.lo,if 0<cmpD b.hi a.hi then b.hi else a.hi⟩
def cosinesH(v:Vx)(p:Int):Vx:=if zeroV v=true then ⟨(hullV (cosineH v.lo p) (cosineH v.hi p)).lo,mkS 1 0⟩ else hullV (cosineH v.lo p) (cosineH v.hi p)
def OneF(d:Dx):Prop:=∃ n m e,(0:Int)≤m∧d=mkD n m e
theorem OneF.p{d:Dx}(h:OneF d):0≤d.m:=by obtain ⟨n,m,e,h,rfl⟩:=h;exact mkD_p
theorem OneF.odd{d:Dx}(h:OneF d)(h0:d.m≠0):d.m % 2=1:=by
  obtain ⟨n,m,e,h,rfl⟩:=h
  have:m≠0:=fun k=>h0 ((mkD_m_zero (neg:=n) (e:=e) h).2 k)
  exact mkD_odd (by omega)
theorem OneF.zero{d:Dx}(h:OneF d)(h0:d.m=0):d=⟨false,[],0⟩:=by
  obtain ⟨n,m,e,h,rfl⟩:=h
  rw [(mkD_m_zero (neg:=n) (e:=e) h).1 h0,mkD_zero]
theorem oneD_f{d:Dx}(hd:0≤d.m):OneF (oneD d):=⟨_,_,_,hd,rfl⟩
theorem cutD_f{d:Dx}{p:Int}{up:Bool}(hd:0≤d.m):OneF (cutD d p up):=by
  have m0:0≤(oneD d).m:=oneD_p
  unfold cutD cutX
  split
  · exact oneD_f hd
  · have:=Int.ediv_nonneg m0 (show (0:Int)≤2^((blen (oneD d).m:Int)-p).toNat by have:=two_pow_pos ((blen (oneD d).m:Int)-p).toNat;omega)
    exact ⟨_,_,_,by split<;>omega,rfl⟩
theorem fits_rp{d:Dx}(h:OneF d){p A B:Int}(hr:Rp p d.rv)(hp:p≤32768)(hA:d.m≠0→p2 A≤(d.m:Rat)*p2 d.e)(hB:(d.m:Rat)*p2 d.e≤p2 B)(h1:-32768≤A-p)(h2:B≤32768):d.fitsB=true:=by
  have m0:=h.p
  by_cases hz:d.m=0
  · rw [h.zero hz];decide +kernel
  · have hodd:=h.odd hz
    obtain ⟨s,e,hs,s1,s2⟩:=hr
    have amt:(d.m:Rat)*p2 d.e=((s.natAbs:Int):Rat)*p2 e:=by
      obtain ⟨a1,a2⟩:=rv_amt m0
      rcases (show 0≤d.rv∨d.rv≤0 by grind) with c | c
      · rw [←a1 c,hs]
        have:0≤s:=by
          have:=p2_pos e
          rcases (show s<0∨0≤s by omega) with k | k
          · have k2:(s:Rat)<0:=cast_lt.2 k
            have:=Rat.mul_pos (show (0:Rat) < -(s:Rat) by grind) this
            grind
          · exact k
        rw [show (s.natAbs:Int)=s by omega]
      · rw [←a2 c,hs]
        have:s≤0:=by
          have:=p2_pos e
          rcases (show 0<s∨s≤0 by omega) with k | k
          · have k2:(0:Rat)<(s:Rat):=cast_lt.2 k
            have:=Rat.mul_pos k2 this
            grind
          · exact k
        rw [show (s.natAbs:Int) = -s by omega,Rat.intCast_neg];grind
    have hsa:((s.natAbs:Int):Rat)<p2 p:=by
      rcases (show (s.natAbs:Int)=s∨(s.natAbs:Int) = -s by omega) with c | c
      · rw [c];exact s1
      · rw [c,Rat.intCast_neg];grind
    have hm:d.m≤(s.natAbs:Int):=by
      rcases (show d.e<e∨e≤d.e by omega) with k | k
      · exfalso
        have e1:(d.m:Rat)=((s.natAbs*2^(e-d.e).toNat:Int):Rat):=by
          rw [rcM,←p2_toNat (show 0≤e-d.e by omega)]
          have:=p2_sub e d.e
          have q:=p2_pos d.e
          have h3:(d.m:Rat)*p2 d.e=((s.natAbs:Int):Rat)*p2 (e-d.e)*p2 d.e:=by rw [Rat.mul_assoc,this];exact amt
          have l1:=(mul_p2_le (a:=(d.m:Rat)) (b:=((s.natAbs:Int):Rat)*p2 (e-d.e)) d.e).1 (by rw [h3];exact Rat.le_refl)
          have l2:=(mul_p2_le (b:=(d.m:Rat)) (a:=((s.natAbs:Int):Rat)*p2 (e-d.e)) d.e).1 (by rw [h3];exact Rat.le_refl)
          exact Rat.le_antisymm l1 l2
        have e2:=Rat.intCast_inj.1 e1
        obtain ⟨j,hj⟩:∃ j,(e-d.e).toNat=j+1:=⟨(e-d.e).toNat-1,by omega⟩
        rw [hj,Int.pow_succ,←Int.mul_assoc] at e2
        omega
      · have q:p2 e≤p2 d.e:=p2_le (by omega)
        have h3:=rmL q (show (0:Rat)≤(d.m:Rat) from cast_le.2 m0)
        rw [amt] at h3
        exact cast_le.1 ((mul_p2_le e).1 h3)
    have hmp:(d.m:Rat)<p2 p:=by have:=cast_le.2 hm;grind
    have hp0:0<p:=by
      have:p2 0<p2 p:=by rw [p2_zero];have:(1:Rat)≤(d.m:Rat):=cast_le.2 (show (1:Int)≤d.m by omega);grind
      exact p2_lt_iff.1 this
    have hb:blen d.m≤p.toNat:=blen_le (by rw [p2_toNat (by omega)] at hmp;exact cast_lt.1 hmp)
    have a1:=amt_ge (m:=d.m) (e:=d.e) (by omega)
    have a2:=amt_lt (m:=d.m) (e:=d.e)
    have e1:A<d.e+(blen d.m:Int):=p2_lt_iff.1 (by have:=hA hz;grind)
    have e2:d.e+(blen d.m:Int)-1≤B:=by
      rcases (show B<(d.e+(blen d.m:Int)-1)∨(d.e+(blen d.m:Int)-1)≤B by omega) with k | k
      · have:=p2_lt k;grind
      · exact k
    have hbp:=blen_pos (n:=d.m) (by omega)
    have hl:(ws d.m).length≤1024:=ws_blen m0 (by omega)
    unfold Dx.fitsB greatB
    rw [decide_eq_false (by omega),decide_eq_true (show -32768≤d.e by omega),decide_eq_true (show d.e≤32768 by omega)]
    rfl
def NarV(δ:Rat)(v:Vx):Prop:=Nar δ v.lo.rv v.hi.rv∨Nar δ (-v.hi.rv) (-v.lo.rv)
theorem NarV.mono{δ η:Rat}{v:Vx}(h:NarV δ v)(k:δ≤η):NarV η v:=h.elim (fun h=>.inl (h.mono k)) fun h=>.inr (h.mono k)
theorem prod_pos{v u:Vx}(hv:v.P)(hu:u.P)(a0:0<v.lo.rv)(a1:v.lo.rv≤v.hi.rv)(c0:0<u.lo.rv)(c1:u.lo.rv≤u.hi.rv):(prodV v u).lo.rv=v.lo.rv*u.lo.rv∧(prodV v u).hi.rv=v.hi.rv*u.hi.rv:=by
  have l:=prod_lo hv hu
  obtain ⟨⟨x,y,hx,hy,h⟩,x',y',hx',hy',h'⟩:=prod_at hv hu
  have mono:∀ x y,(x=v.lo.rv∨x=v.hi.rv)→(y=u.lo.rv∨y=u.hi.rv)→v.lo.rv*u.lo.rv≤x*y∧x*y≤v.hi.rv*u.hi.rv:=fun x y hx hy=>by
    have x0:v.lo.rv≤x∧x≤v.hi.rv:=by rcases hx with rfl | rfl<;>exact ⟨by grind,by grind⟩
    have y0:u.lo.rv≤y∧y≤u.hi.rv:=by rcases hy with rfl | rfl<;>exact ⟨by grind,by grind⟩
    have m1:=rmR x0.1 (rlL c0)
    have m2:=rmL y0.1 (show 0≤x by grind)
    have m3:=rmR x0.2 (show 0≤y by grind)
    have m4:=rmL y0.2 (show 0≤v.hi.rv by grind)
    exact ⟨by grind,by grind⟩
  have a:=(l _ _ (.inl rfl) (.inl rfl)).1
  have b:=(l _ _ (.inr rfl) (.inr rfl)).2
  have c:=(mono x y hx hy).1
  have d:=(mono x' y' hx' hy').2
  exact ⟨by grind,by grind⟩
theorem prod_neg{v u:Vx}(hv:v.P)(hu:u.P)(a0:v.hi.rv<0)(a1:v.lo.rv≤v.hi.rv)(c0:0<u.lo.rv)(c1:u.lo.rv≤u.hi.rv):(prodV v u).lo.rv=v.lo.rv*u.hi.rv∧(prodV v u).hi.rv=v.hi.rv*u.lo.rv:=by
  have l:=prod_lo hv hu
  obtain ⟨⟨x,y,hx,hy,h⟩,x',y',hx',hy',h'⟩:=prod_at hv hu
  have mono:∀ x y,(x=v.lo.rv∨x=v.hi.rv)→(y=u.lo.rv∨y=u.hi.rv)→v.lo.rv*u.hi.rv≤x*y∧x*y≤v.hi.rv*u.lo.rv:=fun x y hx hy=>by
    have x0:v.lo.rv≤x∧x≤v.hi.rv:=by rcases hx with rfl | rfl<;>exact ⟨by grind,by grind⟩
    have y0:u.lo.rv≤y∧y≤u.hi.rv:=by rcases hy with rfl | rfl<;>exact ⟨by grind,by grind⟩
    have m1:=rmR x0.1 (show 0≤u.hi.rv by grind)
    have m2:=rmL y0.2 (show 0≤-x by grind)
    have m3:=rmR x0.2 (show 0≤u.lo.rv by grind)
    have m4:=rmL y0.1 (show 0≤-x by grind)
    exact ⟨by grind,by grind⟩
  have a:=(l _ _ (.inl rfl) (.inr rfl)).1
  have b:=(l _ _ (.inr rfl) (.inl rfl)).2
  have c:=(mono x y hx hy).1
  have d:=(mono x' y' hx' hy').2
  exact ⟨by grind,by grind⟩
theorem NarV.prod{δ η:Rat}{v u:Vx}(hv:v.P)(hu:u.P)(h:NarV δ v)(k:Nar η u.lo.rv u.hi.rv)(d0:0≤δ)(n0:0≤η):NarV (δ+η+δ*η) (prodV v u):=by
  rcases h with h | h
  · obtain ⟨e1,e2⟩:=prod_pos hv hu h.1 h.2.1 k.1 k.2.1
    left;rw [e1,e2];exact h.mul k d0 n0
  · obtain ⟨e1,e2⟩:=prod_neg hv hu (by have:=h.1;grind) (by have:=h.2.1;grind) k.1 k.2.1
    right
    rw [e1,e2]
    have:=h.mul k d0 n0
    rwa [show -(v.hi.rv*u.lo.rv) = -v.hi.rv*u.lo.rv by grind,show -(v.lo.rv*u.hi.rv) = -v.lo.rv*u.hi.rv by grind]
theorem enc_trim{s:Nat→Rat}{v:Vx}{p:Int}(hv:v.P)(hp:1≤p)(h:Enc s v.lo.rv v.hi.rv):Enc s (trimV v p).lo.rv (trimV v p).hi.rv :=
  h.wide (trim_best hv hp).1.2.1 (trim_best hv hp).2.2.1
theorem enc_times{s s':Nat→Rat}{v u:Vx}{p:Int}(hv:v.P)(hu:u.P)(hp:1≤p)(h:Enc s v.lo.rv v.hi.rv)(k:Enc s' u.lo.rv u.hi.rv):Enc (fun n=>s n*s' n) (timesV v u p).lo.rv (timesV v u p).hi.rv :=
  enc_trim (prodV_p v u) hp (h.mul k (prod_lo hv hu))
structure NM (δ L H a b:Rat):Prop where
  L0:0<L
  lo:L≤a
  hi:b≤H
  nar:Nar δ a b
theorem NM.trim{δ L H a b a' b':Rat}{p:Int}(h:NM δ L H a b)(d0:0≤δ)(hp:1≤p)(he:4*eps p≤1)(ha:Dn p a a')(hb:Up p b b'):NM (2*δ+4*eps p) (L/2) (2*H) a' b':=by
  have r1:=ha.rel hp h.nar.1
  have r2:=hb.rel hp (by have:=h.nar.1;have:=h.nar.2.1;grind)
  have e0:=eps_pos p
  have L0:=h.L0
  have lo:=h.lo
  have hi:=h.hi
  have n:=h.nar.2.1
  have m1:=rmR he (show 0≤a by grind)
  have m2:=rmR he (show 0≤b by grind)
  exact ⟨by grind,by grind,by grind,h.nar.trim d0 hp he ha hb⟩
theorem NM.mul{δ η L H L' H' a b c d:Rat}(h:NM δ L H a b)(k:NM η L' H' c d)(d0:0≤δ)(n0:0≤η):NM (δ+η+δ*η) (L*L') (H*H') (a*c) (b*d):=by
  have p1:=h.L0;have p2:=h.lo;have p3:=h.hi;have p4:=h.nar.2.1
  have q1:=k.L0;have q2:=k.lo;have q3:=k.hi;have q4:=k.nar.2.1
  have m1:=rmR p2 (rlL q1)
  have m2:=rmL q2 (show 0≤a by grind)
  have m3:=rmR p3 (show 0≤d by grind)
  have m4:=rmL q3 (show 0≤H by grind)
  exact ⟨Rat.mul_pos p1 q1,by grind,by grind,h.nar.mul k.nar d0 n0⟩
theorem NM.mono{δ η L H L' H' a b:Rat}(h:NM δ L H a b)(k:δ≤η)(l0:0<L')(l1:L'≤L)(h1:H≤H'):NM η L' H' a b :=
  ⟨l0,by have:=h.lo;grind,by have:=h.hi;grind,h.nar.mono k⟩
def VM(δ L H:Rat)(v:Vx):Prop:=NM δ L H v.lo.rv v.hi.rv∨NM δ L H (-v.hi.rv) (-v.lo.rv)
theorem VM.mono{δ η L H L' H':Rat}{v:Vx}(h:VM δ L H v)(k:δ≤η)(l0:0<L')(l1:L'≤L)(h1:H≤H'):VM η L' H' v :=
  h.elim (fun h=>.inl (h.mono k l0 l1 h1)) fun h=>.inr (h.mono k l0 l1 h1)
theorem VM.trim{δ L H:Rat}{v:Vx}{p:Int}(hv:v.P)(h:VM δ L H v)(d0:0≤δ)(hp:1≤p)(he:4*eps p≤1):VM (2*δ+4*eps p) (L/2) (2*H) (trimV v p):=by
  obtain ⟨b1,b2⟩:=trim_best hv hp
  rcases h with h | h
  · exact .inl (h.trim d0 hp he b1 b2)
  · exact .inr (h.trim d0 hp he b2.neg b1.neg)
theorem VM.prod{δ η L H L' H':Rat}{v u:Vx}(hv:v.P)(hu:u.P)(h:VM δ L H v)(k:NM η L' H' u.lo.rv u.hi.rv)(d0:0≤δ)(n0:0≤η):VM (δ+η+δ*η) (L*L') (H*H') (prodV v u):=by
  rcases h with h | h
  · obtain ⟨e1,e2⟩:=prod_pos hv hu h.nar.1 h.nar.2.1 k.nar.1 k.nar.2.1
    left;rw [e1,e2];exact h.mul k d0 n0
  · obtain ⟨e1,e2⟩:=prod_neg hv hu (by have:=h.nar.1;grind) (by have:=h.nar.2.1;grind) k.nar.1 k.nar.2.1
    right
    rw [e1,e2]
    have:=h.mul k d0 n0
    rwa [show -(v.hi.rv*u.lo.rv) = -v.hi.rv*u.lo.rv by grind,show -(v.lo.rv*u.hi.rv) = -v.lo.rv*u.hi.rv by grind]
theorem eps4{p:Int}(hp:3≤p):4*eps p≤1:=by
  have:eps p≤p2 (-2):=p2_le (by omega)
  have e:4*p2 (-2)=1:=by have:=p2_neg 2;have e2:p2 2=4:=by rw [p2_toNat (by omega)];rfl
                         rw [e2] at this;grind
  grind
theorem AltIv.nm{f:Nat}{t:Dx}{w:Int}{v:Vx}(h:AltIv f t w v):NM (p2 (24-w)) (p2 (-2)) (p2 2) v.lo.rv v.hi.rv:=by
  have e2:p2 2=4:=by rw [p2_toNat (by omega)];rfl
  have e:4*p2 (-2)=1:=by have:=p2_neg 2;rw [e2] at this;grind
  have lo:=h.lo
  have hi:=h.hi
  have wd:=h.wide
  have se:=h.enc.self
  have q:=p2_pos (22-w)
  have e24:p2 (24-w)=4*p2 (22-w):=by rw [←e2,←p2_add];congr 1;omega
  have m:=rmL lo (rlL q)
  exact ⟨p2_pos _,by grind,by grind,by grind,se,by rw [e24];grind⟩
theorem point_vm{t:Dx}(ht:0≤t.m)(h0:t.rv≠0){A:Int}(hA:p2 A≤(t.m:Rat)*p2 t.e)(h1:small1 t):VM 0 (p2 A) 1 (pointV t):=by
  have e1:(pointV t).lo.rv=t.rv:=rv_one ht
  have e2:(pointV t).hi.rv=t.rv:=rv_one ht
  obtain ⟨a1,a2⟩:=rv_amt ht
  unfold VM
  rw [e1,e2]
  rcases (show 0≤t.rv∨t.rv≤0 by grind) with c | c
  · left
    have:=a1 c
    exact ⟨p2_pos _,by grind,h1.1,Nar.self (by grind)⟩
  · right
    have:=a2 c
    exact ⟨p2_pos _,by grind,by have:=h1.2;grind,Nar.self (by grind)⟩
theorem enc_point{t:Dx}(ht:0≤t.m):Enc (fun _=>t.rv) (pointV t).lo.rv (pointV t).hi.rv:=by
  have e1:(pointV t).lo.rv=t.rv:=rv_one ht
  have e2:(pointV t).hi.rv=t.rv:=rv_one ht
  rw [e1,e2];exact Enc.const _
theorem sin_seq(t:Rat):sinS t=fun n=>t*altS 2 (t*t) n:=by funext n;exact sinS_alt t n
theorem cos_seq(t:Rat):cosS t=fun n=>altS 1 (t*t) n:=by funext n;exact cosS_alt t n
theorem p2_half(a:Int):2*p2 a=p2 (a+1):=by rw [Int.add_comm,p2_add,p2_one]
theorem p2_dbl(a:Int):p2 a+p2 a=p2 (a+1):=by rw [←p2_half];grind
theorem sine_zero{t:Dx}(ht:0≤t.m):t.zeroB=true↔t.rv=0:=zeroB_rv ht
theorem times_vm{δ η L H L' H':Rat}{v u:Vx}{p:Int}(hv:v.P)(hu:u.P)(h:VM δ L H v)(k:NM η L' H' u.lo.rv u.hi.rv)(d0:0≤δ)(n0:0≤η)(hp:3≤p):VM (2*(δ+η+δ*η)+4*eps p) (L*L' / 2) (2*(H*H')) (timesV v u p) :=
  (h.prod hv hu k d0 n0).trim (prodV_p v u) (by have:=rmN d0 n0;grind) (by omega) (eps4 hp)
theorem sineV_iv{t:Dx}{p:Int}(ht:0≤t.m)(h1:small1 t)(h0:t.rv≠0){A:Int}(hA:p2 A≤(t.m:Rat)*p2 t.e)(p0:0≤p)(p1:p≤60000) :
    (sineV t p).P∧Enc (sinS t.rv) (sineV t p).lo.rv (sineV t p).hi.rv∧VM (p2 (-36-p)) (p2 (A-4)) (p2 4) (sineV t p):=by
  have hz:¬ t.zeroB=true:=fun h=>h0 ((sine_zero ht).1 h)
  have I:=altV_iv (sqS_alt ht h1.1 h1.2 (f:=2) (by omega) (by omega) (w:=p+64) (by omega) (by omega))
  unfold sineV
  rw [if_neg hz]
  have E:=enc_times (p:=p+64) (trimV_p (pointV t) (p+64)) I.p (by omega) (enc_trim (pointV_p t) (by omega) (enc_point ht)) I.enc
  rw [←sin_seq] at E
  refine ⟨trimV_p _ _,E,?_⟩
  have V:=times_vm (p:=p+64) (trimV_p (pointV t) (p+64)) I.p ((point_vm ht h0 hA h1).trim (pointV_p t) Rat.le_refl (p:=p+64) (by omega) (eps4 (by omega))) I.nm (by have:=eps_pos (p+64);grind) (rlL (p2_pos _)) (by omega)
  refine V.mono ?_ (p2_pos _) ?_ ?_
  · have e1:eps (p+64)=p2 (-63-p):=by unfold eps;congr 1;omega
    have e2:24-(p+64) = -40-p:=by omega
    rw [e1,e2]
    have q:4*p2 (-63-p)=p2 (-61-p):=by rw [show (4:Rat)*p2 (-63-p)=2*(2*p2 (-63-p)) by grind,p2_half,p2_half];congr 1;omega
    rw [Rat.mul_zero,Rat.zero_add,q]
    have m1:p2 (-61-p)≤p2 (-40-p):=p2_le (by omega)
    have m2:p2 (-61-p)≤1:=by have:=p2_le (show -61-p≤0 by omega);rwa [p2_zero] at this
    have m3:=rmR m2 (rlL (p2_pos (-40-p)))
    have s1:=p2_dbl (-40-p)
    have s2:=p2_dbl (-39-p)
    have s3:=p2_dbl (-38-p)
    have s4:=p2_dbl (-37-p)
    rw [show -40-p+1 = -39-p by omega] at s1
    rw [show -39-p+1 = -38-p by omega] at s2
    rw [show -38-p+1 = -37-p by omega] at s3
    rw [show -37-p+1 = -36-p by omega] at s4
    have:=p2_pos (-40-p)
    grind
  · have e:p2 (A-4)*16=p2 A:=by
      have h:=p2_sub A 4
      have e4:p2 4=16:=by rw [p2_toNat (by omega)];rfl
      rwa [e4] at h
    have e2:p2 A*p2 (-2)=p2 (A-2):=by rw [←p2_add];rfl
    have e3:p2 (A-2)=4*p2 (A-4):=by
      rw [show (4:Rat)*p2 (A-4)=2*(2*p2 (A-4)) by grind,p2_half,p2_half];congr 1;omega
    have:p2 A/2*p2 (-2)/2=p2 (A-4):=by grind
    rw [this];exact Rat.le_refl
  · have e2:p2 2=4:=by rw [p2_toNat (by omega)];rfl
    have e4:p2 4=16:=by rw [p2_toNat (by omega)];rfl
    rw [e2,e4];grind
theorem enc_cos0:Enc (cosS 0) 1 1:=fun e he=>⟨1,fun n hn=>by
  obtain ⟨m,rfl⟩:∃ m,n=m+1:=⟨n-1,by omega⟩
  rw [cosS_zero];exact ⟨by grind,by grind⟩⟩
theorem enc_sin0:Enc (sinS 0) 0 0:=fun e he=>⟨0,fun n _=>by
  have:sinS 0 n=0:=by rw [sinS_alt,Rat.zero_mul]
  rw [this];exact ⟨by grind,by grind⟩⟩
theorem cosineV_iv{t:Dx}{p:Int}(ht:0≤t.m)(h1:small1 t)(p0:0≤p)(p1:p≤60000) :
    (cosineV t p).P∧Enc (cosS t.rv) (cosineV t p).lo.rv (cosineV t p).hi.rv∧NM (p2 (-40-p)) (p2 (-2)) (p2 2) (cosineV t p).lo.rv (cosineV t p).hi.rv:=by
  unfold cosineV
  split
  · rename_i h
    have h0:=(sine_zero ht).1 h
    have e1:(pointV (mkS 1 0)).lo.rv=1:=(rv_one mkS_p).trans (rv_int 1)
    have e2:(pointV (mkS 1 0)).hi.rv=1:=(rv_one mkS_p).trans (rv_int 1)
    rw [e1,e2,h0]
    have q2:p2 2=4:=by rw [p2_toNat (by omega)];rfl
    have q:4*p2 (-2)=1:=by have:=p2_neg 2;rw [q2] at this;grind
    refine ⟨⟨oneD_p,oneD_p⟩,enc_cos0,p2_pos _,by grind,by grind,(Nar.self (by grind)).mono (rlL (p2_pos _))⟩
  · have I:=altV_iv (sqS_alt ht h1.1 h1.2 (f:=1) (by omega) (by omega) (w:=p+64) (by omega) (by omega))
    refine ⟨I.p,by rw [cos_seq];exact I.enc,?_⟩
    have:=I.nm
    rwa [show 24-(p+64) = -40-p by omega] at this
theorem cosineH_iv{t:Dx}{p:Int}(ht:0≤t.m)(h1:small1 t)(p0:0≤p)(p1:p≤60000) :
    AltIv 1 t (p+48) (cosineH t p)∧Enc (cosS t.rv) (cosineH t p).lo.rv (cosineH t p).hi.rv∧NM (p2 (-24-p)) (p2 (-2)) (p2 2) (cosineH t p).lo.rv (cosineH t p).hi.rv:=by
  have I:=altR_iv (sqR_alt ht h1.1 h1.2 (f:=1) (by omega) (by omega) (w:=p+48) (by omega) (by omega))
  refine ⟨I,by rw [cos_seq];exact I.enc,?_⟩
  have:=I.nm
  rwa [show 24-(p+48) = -24-p by omega] at this
theorem sineH_iv{t:Dx}{p:Int}(ht:0≤t.m)(h1:small1 t)(h0:t.rv≠0){A:Int}(hA:p2 A≤(t.m:Rat)*p2 t.e)(p0:0≤p)(p1:p≤60000) :
    (sineH t p).P∧Enc (sinS t.rv) (sineH t p).lo.rv (sineH t p).hi.rv∧VM (p2 (-21-p)) (p2 (A-3)) (p2 4) (sineH t p):=by
  have hz:¬ t.zeroB=true:=fun h=>h0 ((sine_zero ht).1 h)
  have I:=altR_iv (sqR_alt ht h1.1 h1.2 (f:=2) (by omega) (by omega) (w:=p+48) (by omega) (by omega))
  unfold sineH
  rw [if_neg hz]
  have E:=enc_times (p:=p+48) (pointV_p t) I.p (by omega) (enc_point ht) I.enc
  rw [←sin_seq] at E
  refine ⟨trimV_p _ _,E,?_⟩
  have V:=times_vm (p:=p+48) (pointV_p t) I.p (point_vm ht h0 hA h1) I.nm Rat.le_refl (rlL (p2_pos _)) (by omega)
  refine V.mono ?_ (p2_pos _) ?_ ?_
  · have e1:eps (p+48)=p2 (-47-p):=by unfold eps;congr 1;omega
    have e2:24-(p+48) = -24-p:=by omega
    rw [e1,e2,Rat.zero_mul,Rat.add_zero,Rat.zero_add,p2_half]
    have q:4*p2 (-47-p)=p2 (-45-p):=by rw [show (4:Rat)*p2 (-47-p)=2*(2*p2 (-47-p)) by grind,p2_half,p2_half];congr 1;omega
    rw [q]
    have m1:p2 (-45-p)≤p2 (-22-p):=p2_le (by omega)
    have m2:p2 (-24-p+1)≤p2 (-22-p):=p2_le (by omega)
    have s:=p2_dbl (-22-p)
    rw [show -22-p+1 = -21-p by omega] at s
    grind
  · have e2:p2 A*p2 (-2)=p2 (A-2):=by rw [←p2_add];rfl
    have e3:p2 (A-2)=2*p2 (A-3):=by rw [p2_half];congr 1;omega
    have:p2 A*p2 (-2)/2=p2 (A-3):=by grind
    rw [this];exact Rat.le_refl
  · have e2:p2 2=4:=by rw [p2_toNat (by omega)];rfl
    have e4:p2 4=16:=by rw [p2_toNat (by omega)];rfl
    rw [e2,e4];grind
theorem eps8(p:Int):4*eps (p+8)=p2 (-5-p):=by
  unfold eps
  rw [show (4:Rat)*p2 (1-(p+8))=2*(2*p2 (1-(p+8))) by grind,p2_half,p2_half];congr 1;omega
theorem cut_delta{δ:Rat}{p:Int}(h:δ≤p2 (-6-p)):2*δ+4*eps (p+8)≤p2 (-4-p):=by
  rw [eps8]
  have s:=p2_dbl (-5-p)
  have s2:=p2_half (-6-p)
  rw [show -5-p+1 = -4-p by omega] at s
  rw [show -6-p+1 = -5-p by omega] at s2
  grind
theorem half_p2(a:Int):p2 a/2=p2 (a-1):=by
  have:=p2_half (a-1)
  rw [show a-1+1=a by omega] at this
  grind
theorem cut_vm{v:Vx}{δ:Rat}{A B p:Int}(hv:v.P)(h:VM δ (p2 A) (p2 B) v)(d0:0≤δ)(hd:δ≤p2 (-6-p))(p0:0≤p):VM (p2 (-4-p)) (p2 (A-1)) (p2 (B+1)) (trimV v (p+8)):=by
  have V:=h.trim hv d0 (p:=p+8) (by omega) (eps4 (by omega))
  rw [half_p2,p2_half] at V
  exact V.mono (cut_delta hd) (p2_pos _) Rat.le_refl Rat.le_refl
theorem vm_amt{v:Vx}{δ L H:Rat}(hv:v.P)(h:VM δ L H v):(L≤(v.lo.m:Rat)*p2 v.lo.e∧(v.lo.m:Rat)*p2 v.lo.e≤H)∧L≤(v.hi.m:Rat)*p2 v.hi.e∧(v.hi.m:Rat)*p2 v.hi.e≤H:=by
  obtain ⟨a1,a2⟩:=rv_amt hv.1
  obtain ⟨b1,b2⟩:=rv_amt hv.2
  rcases h with h | h
  · have n:=h.nar;have l:=h.lo;have k:=h.hi;have z:=h.L0
    have n1:=n.1;have n2:=n.2.1
    rw [←a1 (by grind),←b1 (by grind)]
    exact ⟨⟨by grind,by grind⟩,by grind,by grind⟩
  · have n:=h.nar;have l:=h.lo;have k:=h.hi;have z:=h.L0
    have n1:=n.1;have n2:=n.2.1
    rw [←a2 (by grind),←b2 (by grind)]
    exact ⟨⟨by grind,by grind⟩,by grind,by grind⟩
theorem vm_le{v:Vx}{δ L H:Rat}(h:VM δ L H v):v.lo.rv≤v.hi.rv:=by
  rcases h with h | h
  · exact h.nar.2.1
  · have:=h.nar.2.1;grind
theorem cut_right{w:Vx}{δ:Rat}{A B p:Int}(hw:w.P)(h:VM δ (p2 A) (p2 B) (trimV w p))(p0:1≤p)(p1:p≤32768)(hA:-32768≤A-p)(hB:B≤32768):rightV (trimV w p)=true:=by
  obtain ⟨⟨l1,l2⟩,h1,h2⟩:=vm_amt (trimV_p w p) h
  obtain ⟨b1,b2⟩:=trim_best hw p0
  exact right_of (fits_rp (cutD_f hw.1) b1.1 p1 (fun _=>l1) l2 hA hB) (fits_rp (cutD_f hw.2) b2.1 p1 (fun _=>h1) h2 hA hB) (vm_le h)
theorem meets_of{v u:Vx}{s:Nat→Rat}(hr:rightV v=true)(hu:rightV u=true)(h:Enc s v.lo.rv v.hi.rv)(k:Enc s u.lo.rv u.hi.rv):meetsV v u=true:=by
  rw [meetsV,hr,hu,show leI (cmpD v.lo u.hi) 0=true from leI_true.2 (cmpD_le.2 (h.meets k)),show leI (cmpD u.lo v.hi) 0=true from leI_true.2 (cmpD_le.2 (k.meets h))]
  rfl
theorem OneF.xs{d:Dx}(h:OneF d):d.xs=ws d.m:=by obtain ⟨n,m,e,h,rfl⟩:=h;exact mkD_ws h
theorem p2_int_odd{a b:Int}{e f:Int}(h:(a:Rat)*p2 e=(b:Rat)*p2 f)(hef:e≤f):a=b*2^(f-e).toNat:=by
  have k:p2 f=p2 (f-e)*p2 e:=by rw [←p2_add];congr 1;omega
  rw [k,←Rat.mul_assoc,p2_toNat (show 0≤f-e by omega)] at h
  have h2:((a:Int):Rat)=((b*2^(f-e).toNat:Int):Rat):=by
    rw [rcM]
    refine Rat.le_antisymm ((mul_p2_le e).1 ?_) ((mul_p2_le e).1 ?_)<;>grind
  exact Rat.intCast_inj.1 h2
theorem sm_odd{d:Dx}(h:d.m % 2=1):d.sm % 2=1:=by unfold Dx.sm;split<;>omega
theorem OneF.ext{a b:Dx}(ha:OneF a)(hb:OneF b)(h:a.rv=b.rv):a=b:=by
  have pa:=ha.p
  have pb:=hb.p
  by_cases za:a.m=0
  · have e:b.rv=0:=by rw [←h];exact rv_zero za
    have zb:b.m=0:=by
      have:=(zeroB_rv pb).2 e
      simpa [Dx.zeroB] using this
    rw [ha.zero za,hb.zero zb]
  · have zb:b.m≠0:=fun zb=>za (by
      have e:a.rv=0:=by rw [h];exact rv_zero zb
      have:=(zeroB_rv pa).2 e
      simpa [Dx.zeroB] using this)
    have oa:=sm_odd (ha.odd za)
    have ob:=sm_odd (hb.odd zb)
    have he:a.e=b.e∧a.sm=b.sm:=by
      rcases Int.le_total a.e b.e with k | k
      · have q:=p2_int_odd (h:(a.sm:Rat)*p2 a.e=(b.sm:Rat)*p2 b.e) k
        generalize ht:(b.e-a.e).toNat=t at q
        cases t with
        | zero=>exact ⟨by omega,by simpa using q⟩
        | succ t=>rw [Int.pow_succ,←Int.mul_assoc] at q;omega
      · have q:=p2_int_odd (h.symm:(b.sm:Rat)*p2 b.e=(a.sm:Rat)*p2 a.e) k
        generalize ht:(a.e-b.e).toNat=t at q
        cases t with
        | zero=>exact ⟨by omega,by simpa using q.symm⟩
        | succ t=>rw [Int.pow_succ,←Int.mul_assoc] at q;omega
    have hs:=he.2
    have hm:a.neg=b.neg∧a.m=b.m:=by
      unfold Dx.sm at hs
      cases h1:a.neg<;>cases h2:b.neg<;>simp only [h1,h2,if_true,if_false,Bool.false_eq_true] at hs ⊢<;>first | (exfalso;omega) | exact ⟨trivial,by omega⟩
    have hx:a.xs=b.xs:=by rw [ha.xs,hb.xs,hm.2]
    cases a;cases b
    simp only [Dx.mk.injEq]
    exact ⟨hm.1,hx,he.1⟩
theorem mkD_f{neg:Bool}{m e:Int}(h:0≤m):OneF (mkD neg m e):=⟨_,_,_,h,rfl⟩
theorem mkS_f{s e:Int}:OneF (mkS s e):=mkD_f (by omega)
theorem plusX_f{a b:Dx}(ha:OneF a)(hb:OneF b):OneF (plusX a b):=by
  unfold plusX;split
  · exact hb
  · split
    · exact ha
    · exact mkS_f
theorem plusD_f{a b:Dx}(ha:0≤a.m)(hb:0≤b.m):OneF (plusD a b):=plusX_f (oneD_f ha) (oneD_f hb)
theorem lessD_f{a b:Dx}(ha:0≤a.m):OneF (lessD a b):=plusD_f ha negD_p
theorem floorD_f{d:Dx}(h:0≤d.m):OneF (floorD d):=by
  unfold floorD;split
  · exact oneD_f h
  · have:=Int.ediv_nonneg (oneD_p (d:=d)) (show (0:Int)≤2^(-(oneD d).e).toNat by have:=two_pow_pos (-(oneD d).e).toNat;omega)
    exact mkD_f (by split<;>omega)
def halfD:Dx:=⟨false,[1],-1⟩
theorem halfD_m:halfD.m=1:=by decide
theorem halfD_rv:halfD.rv=1/2:=by
  have:halfD.sm=1:=by decide
  unfold Dx.rv;rw [this];decide +kernel
def nearD(d:Dx):Dx :=
  if (floorD (plusD d halfD)).e=0∧(floorD (plusD d halfD)).m≠0∧cmpD (lessD (floorD (plusD d halfD)) d) halfD=0 then lessD (floorD (plusD d halfD)) (mkS 1 0) else floorD (plusD d halfD)
def NearI(n:Int)(q:Rat):Prop:=(n:Rat)-1/2≤q∧q≤(n:Rat)+1/2∧((q=(n:Rat)-1/2∨q=(n:Rat)+1/2)→n % 2=0)
theorem nearD_rv{d:Dx}(hd:0≤d.m):∃ n:Int,(nearD d).rv=(n:Rat)∧NearI n d.rv:=by
  obtain ⟨n,hn,f1,f2⟩:=floorD_rv (d:=plusD d halfD) plusD_p
  rw [rv_plus hd (by decide),halfD_rv] at f1 f2
  have ff:=floorD_f (d:=plusD d halfD) plusD_p
  have fe:=floorD_e (d:=plusD d halfD)
  have fp:=floorD_p (d:=plusD d halfD)
  unfold nearD
  generalize floorD (plusD d halfD)=N at *
  have hsm:n=N.sm*2^N.e.toNat:=by
    refine Rat.intCast_inj.1 ?_
    rw [←hn,rcM,←p2_toNat fe];rfl
  split
  · rename_i hc
    obtain ⟨c1,c2,c3⟩:=hc
    have c3:=cmpD_eq0.1 c3
    rw [rv_less fp hd,hn,halfD_rv] at c3
    have ho:n % 2=1:=by
      rw [hsm,c1]
      have:=sm_odd (ff.odd c2)
      simpa using this
    have e1:((1:Int):Rat)=1:=rfl
    have e2:(1:Rat)/2+1/2=1:=by grind
    have c4:d.rv=(n:Rat)-1/2:=by grind
    refine ⟨n-1,by rw [rv_less fp mkS_p,hn,rv_mkS,p2_zero,Rat.intCast_sub];grind,?_,?_,fun _=>by omega⟩
    · rw [Rat.intCast_sub,e1,c4];grind
    · rw [Rat.intCast_sub,e1,c4];grind
  · rename_i hc
    refine ⟨n,hn,by grind,by grind,fun ht=>?_⟩
    have ht:d.rv=(n:Rat)-1/2:=by grind
    by_cases he:N.e=0
    · by_cases hm:N.m=0
      · have:n=0:=by
          refine Rat.intCast_inj.1 ?_
          rw [←hn,rv_zero hm];rfl
        omega
      · exfalso
        refine hc ⟨he,hm,cmpD_eq0.2 ?_⟩
        rw [rv_less fp hd,hn,halfD_rv];grind
    · rw [hsm]
      obtain ⟨k,hk⟩:∃ k,N.e.toNat=k+1:=⟨N.e.toNat-1,by omega⟩
      rw [hk,Int.pow_succ,←Int.mul_assoc];omega
theorem nearD_p{d:Dx}:0≤(nearD d).m:=by unfold nearD;split;exact lessD_p;exact floorD_p
theorem nearD_f{d:Dx}:OneF (nearD d):=by unfold nearD;split;exact lessD_f floorD_p;exact floorD_f plusD_p
theorem sub_e0{a b:Dx}(ha:0≤a.e)(hb:0≤b.e):0≤(lessD a b).e:=by
  have h1:0≤(oneD a).e:=mkD_e0 ha
  have h2:0≤(oneD (negD b)).e:=mkD_e0 (mkD_e0 hb)
  unfold lessD plusD plusX
  split
  · exact h2
  · split
    · exact h1
    · exact mkD_e0 (by omega)
theorem nearD_e{d:Dx}:0≤(nearD d).e:=by
  unfold nearD;split
  · exact sub_e0 floorD_e (mkD_e0 (Int.le_refl _))
  · exact floorD_e
def wholeS(d:Dx):Int:=d.sm*2^d.e.toNat
theorem wholeS_rv{d:Dx}(h:0≤d.e):(wholeS d:Rat)=d.rv:=by unfold wholeS Dx.rv;rw [rcM,p2_toNat h]
def by4I(d:Dx):Int:=wholeS d % 4
theorem nearD_whole{d:Dx}(hd:0≤d.m):NearI (wholeS (nearD d)) d.rv:=by
  obtain ⟨n,h1,h2⟩:=nearD_rv hd
  have:wholeS (nearD d)=n:=Rat.intCast_inj.1 ((wholeS_rv nearD_e).trans h1)
  rwa [this]
theorem nearD_eq{a b:Dx}:(nearD a).rv=(nearD b).rv↔wholeS (nearD a)=wholeS (nearD b):=by
  rw [←wholeS_rv nearD_e,←wholeS_rv nearD_e,Rat.intCast_inj]
def rPower:Spec:=specK [.i .i64] fun (n:Int)=>(none,dT ⟨false,[1],n⟩)
theorem rPower_vc(n:Int)(Q:Tv→Prop):execF ⟨tys,[]⟩ (fun _=>none) 0 Tryz.f97 [.one (.int .i64 n)] Q=(Words [1]∧Q (Tv.sv (Sv.agg [At.bool false,At.words true [1],At.int .i64 n]))):=by kernel_rfl
theorem words_1:Words [1]:=fun x hx=>by
  rcases List.mem_singleton.1 hx with rfl
  exact ⟨by omega,by omega⟩
theorem rPower_ok:SpecOk Tryz.prog 97 rPower :=
  specKW_ok (envOk (S:=[]) tys_ok trivial) mixed Tryz.func97 rfl (by decide) (by decide) fun (n:Int) _ _=>⟨fun _=>none,0,by
    show execF _ _ _ _ _ (fun t=>t=dT ⟨false,[1],n⟩∨fgT t=dT ⟨false,[1],n⟩)
    exact (rPower_vc n _).mpr ⟨words_1,.inl rfl⟩⟩
def sNear:List (FuncId×Spec):=[(97,rPower),(95,rFloor),(77,rInt)] ++ sRaw4
theorem sNear_ok:SpecsOk Tryz.prog sNear:=⟨rPower_ok,rFloor_ok,rInt_ok,sRaw4_ok⟩
theorem halfD_sm:halfD.Sm 8:=⟨by rw [halfD_m];exact blen_le (by decide),by decide,by decide⟩
def rNear:Spec:=specK [.d] fun (d:Dx)=>(some (d.Sm 268435456),dT (nearD d))
theorem rNear_vc(d:Dx)(Q:Tv→Prop):execF ⟨tys,sNear⟩ (fun _=>none) 0 Tryz.f58 [.agg (dyL false d)] Q=((Dx.Sm 68719476736 d∧Dx.Sm 68719476736 (Dx.mk false [1] (-1)))∧Dx.Sm 68719476736 (plusD d (Dx.mk false [1] (-1)))∧true=true∧br (eqI (floorD (plusD d (Dx.mk false [1] (-1)))).e 0) (br (!Dx.zeroB (floorD (plusD d (Dx.mk false [1] (-1))))) ((Dx.Sm 34359738368 (floorD (plusD d (Dx.mk false [1] (-1))))∧Dx.Sm 34359738368 d)∧(Dx.Sm 68719476736 (lessD (floorD (plusD d (Dx.mk false [1] (-1)))) d)∧Dx.Sm 68719476736 (Dx.mk false [1] (-1)))∧br (eqI (cmpD (lessD (floorD (plusD d (Dx.mk false [1] (-1)))) d) (Dx.mk false [1] (-1))) 0) (inR 1∧(Dx.Sm 34359738368 (floorD (plusD d (Dx.mk false [1] (-1))))∧Dx.Sm 34359738368 (mkS 1 0))∧true=true∧Q (Tv.sv (Sv.agg (dyL true (lessD (floorD (plusD d (Dx.mk false [1] (-1)))) (mkS 1 0)))))) (Q (Tv.sv (Sv.agg (dyL true (floorD (plusD d (Dx.mk false [1] (-1))))))))) (Q (Tv.sv (Sv.agg (dyL true (floorD (plusD d (Dx.mk false [1] (-1))))))))) (Q (Tv.sv (Sv.agg (dyL true (floorD (plusD d (Dx.mk false [1] (-1))))))))):=by kernel_rfl
theorem near_sm1{d:Dx}{N:Nat}(hd:0≤d.m)(h:d.Sm N)(hN:8≤N):(plusD d halfD).Sm (8*N+1)∧(floorD (plusD d halfD)).Sm (16*N+4):=by
  have a:=plusD_sm (N:=N) hd (by decide) h (halfD_sm.mono (by omega))
  exact ⟨a.mono (by omega),(floorD_sm plusD_p a).mono (by omega)⟩
theorem mkS_sm5:(mkS 1 0).Sm 5:=(mkS_sm (N:=5) (M:=0) (blen_le (by decide)) (by omega) (by omega)).mono (by omega)
theorem nearD_sm{d:Dx}{N:Nat}(hd:0≤d.m)(h:d.Sm N)(hN:8≤N):(nearD d).Sm (256*N+64):=by
  obtain ⟨a,b⟩:=near_sm1 hd h hN
  unfold nearD;split
  · have c:=negD_sm (mkS_sm5) mkS_p
    exact (plusD_sm (N:=16*N+4) floorD_p negD_p b (c.mono (by omega))).mono (by omega)
  · exact b.mono (by omega)
theorem rNear_ok:SpecOk Tryz.prog 58 rNear :=
  specK_ok (envOk tys_ok sNear_ok) mixed Tryz.func58 rfl (by decide) (by decide) fun (d:Dx) hd hp=>⟨fun _=>none,0,by
    have s:d.Sm 268435456:=hp
    have m0:=Dx.Wf.m0 hd
    obtain ⟨z1,z2⟩:=near_sm1 m0 s (by omega)
    show execF _ _ _ _ _ (fun t=>t=dT (nearD d))
    have e0:(⟨false,[1],-1⟩:Dx)=halfD:=rfl
    refine (rNear_vc d _).mpr ?_
    rw [e0]
    have p1:=floorD_p (d:=plusD d halfD)
    have z3:(lessD (floorD (plusD d halfD)) d).Sm 68719476736:=(plusD_sm (N:=4294967300) p1 negD_p z2 ((negD_sm s m0).mono (by omega))).mono (by omega)
    have z5:Dx.Sm 34359738368 (mkS 1 0):=mkS_sm5.mono (by omega)
    refine ⟨⟨s.mono (by omega),halfD_sm.mono (by omega)⟩,z1.mono (by omega),rfl,?_⟩
    unfold nearD
    refine br_intro (fun h1=>br_intro (fun h2=>⟨⟨z2.mono (by omega),s.mono (by omega)⟩,⟨z3,halfD_sm.mono (by omega)⟩,br_intro (fun h3=>⟨⟨by omega,by omega⟩,⟨z2.mono (by omega),z5⟩,rfl,?_⟩) fun h3=>?_⟩) fun h2=>?_) fun h1=>?_
    · rw [if_pos ⟨eqI_true.1 h1,zeroB_false.1 (not_true h2),eqI_true.1 h3⟩]
    · rw [if_neg fun k=>eqI_false.1 h3 k.2.2]
    · rw [if_neg fun k=>k.2.1 (zeroB_true.1 (not_false' h2))]
    · rw [if_neg fun k=>eqI_false.1 h1 k.1]⟩
theorem by4_low{m e:Int}(m0:0<m)(e0:0≤e)(e1:e≤1):bitsI .and .i64 (IntKind.wrap .i64 (shlI .u64 (nth (ws m) 0) e)) 3=m*2^e.toNat % 4:=by
  rw [and_mask3,ws_pos m0,nth_cons_zero,shlI,IntKind.wrap_i64,IntKind.wrap_u64]
  rcases (show e=0∨e=1 by omega) with rfl | rfl
  · rw [show min (0:Int).toNat IntKind.u64.bits=0 by decide,show (0:Int).toNat=0 by decide];omega
  · rw [show min (1:Int).toNat IntKind.u64.bits=1 by decide,show (1:Int).toNat=1 by decide];omega
theorem by4_great{d:Dx}(h:2≤d.e):by4I d=0:=by
  obtain ⟨k,hk⟩:∃ k,d.e.toNat=k+2:=⟨d.e.toNat-2,by omega⟩
  unfold by4I wholeS
  rw [hk,Int.pow_succ,Int.pow_succ,←Int.mul_assoc,←Int.mul_assoc];omega
theorem by4_zero{d:Dx}(h:d.m=0):by4I d=0:=by
  have:d.sm=0:=by unfold Dx.sm;rw [h];simp
  unfold by4I wholeS;rw [this];simp
theorem oneD_id{d:Dx}(h:OneF d):oneD d=d:=(oneD_f h.p).ext h (rv_one h.p)
def rBy4:Spec:=specK [.d] fun (d:Dx)=>(some (OneF d∧0≤d.e∧d.e≤4611686018427387904),iT (by4I d))
theorem rBy4_vc(d:Dx)(Q:Tv→Prop):execF ⟨tys,sNear⟩ (fun _=>none) 0 Tryz.f62 [.agg (dyL false d)] Q=(((-4611686018427387904:Int)≤d.e∧d.e≤4611686018427387904)∧br (Dx.zeroB (oneD d)) (Q (iT 0)) (br (ltI 1 (oneD d).e) (Q (iT 0)) (((0:Int)≤0∧(0:Int)<(↑(List.length (oneD d).xs):Int))∧(0:Int)≤(oneD d).e∧true=true∧br (oneD d).neg (inR ((0:Int)-bitsI BinOp.and IntKind.i64 (IntKind.wrap IntKind.i64 (shlI IntKind.u64 (nth (oneD d).xs 0) (oneD d).e)) 3)∧Q (iT (bitsI BinOp.and IntKind.i64 ((0:Int)-bitsI BinOp.and IntKind.i64 (IntKind.wrap IntKind.i64 (shlI IntKind.u64 (nth (oneD d).xs 0) (oneD d).e)) 3) 3))) (Q (iT (bitsI BinOp.and IntKind.i64 (IntKind.wrap IntKind.i64 (shlI IntKind.u64 (nth (oneD d).xs 0) (oneD d).e)) 3)))))):=by kernel_rfl
theorem rBy4_ok:SpecOk Tryz.prog 62 rBy4 :=
  specK_ok (envOk tys_ok sNear_ok) mixed Tryz.func62 rfl (by decide) (by decide) fun (d:Dx) _ hp=>⟨fun _=>none,0,by
    obtain ⟨f,e0,e1⟩:OneF d∧0≤d.e∧d.e≤4611686018427387904:=hp
    show execF _ _ _ _ _ (fun t=>t=iT (by4I d))
    refine (rBy4_vc d _).mpr ?_
    rw [oneD_id f]
    refine ⟨⟨by omega,e1⟩,br_intro (fun h=>?_) fun h=>br_intro (fun h1=>?_) fun h1=>?_⟩
    · rw [by4_zero (zeroB_true.1 h)]
    · rw [by4_great (by have:=ltI_true.1 h1;omega)]
    · have h1:=ltI_false.1 h1
      have m0:=f.p
      have mp:0<d.m:=by have:=zeroB_false.1 h;omega
      rw [f.xs,by4_low mp e0 (by omega)]
      have hl:0<((ws d.m).length:Int):=by rw [ws_pos mp];simp
      refine ⟨⟨by omega,hl⟩,e0,rfl,br_intro (fun h2=>⟨⟨by omega,by omega⟩,?_⟩) fun h2=>?_⟩
      · rw [and_mask3]
        have:by4I d=(0-d.m*2^d.e.toNat % 4) % 4:=by
          unfold by4I wholeS Dx.sm;rw [if_pos h2,Int.neg_mul];omega
        rw [this]
      · have:by4I d=d.m*2^d.e.toNat % 4:=by
          unfold by4I wholeS Dx.sm;rw [if_neg (by rw [h2];simp)]
        rw [this]⟩
def tyUint:TyRow:=⟨104,1,false,[.int .u64 0],.int .u64⟩
def tysU:List TyRow:=tyUint :: tys2
theorem tysU_ok:RowsOk Tryz.prog tysU:=⟨by kernel_rfl,tys2_ok⟩
section
variable {C:Base} {w:World} {A:Nat→Option Nat}
theorem repA_wf1{v:Value}{a:At}(h:Rep C A w v a):wf1 a:=by
  cases h with
  | words h=>obtain ⟨_,_,_,h1,h2,h3,_⟩:=h;exact ⟨h3,h2.2⟩
  | _=>exact trivial
theorem repA_wfL(f:Nat→Value):∀ (l:List At) (k:Nat),(∀ (i:Nat) a,l[i]?=some a→Rep C A w (f (k+i)) a)→wfL l
  | [],_,_=>trivial
  | a :: l,k,h=>⟨repA_wf1 (h 0 a rfl),repA_wfL f l (k+1) fun i x hx=>by have:=h (i+1) x hx;rwa [show k+(i+1)=k+1+i by omega] at this⟩
theorem repA_wfB{v:Value}{a:At}(h:Rep C A w v a):wfB a:=by
  cases h with
  | words h=>exact repA_wf1 (.words h)
  | ref vs _ _ _ h=>exact repA_wfL vs _ 0 fun i a hi=>by rw [Nat.zero_add];exact h i a hi
  | rows vs _ _ _ _ _ _ _ _ h=>exact repA_wfL vs _ 0 fun i a hi=>by rw [Nat.zero_add];exact h i a hi
  | _=>exact trivial
theorem repA_wfBs:∀ {vs:List Value} {l:List At},RepL C A w vs l→wfBs l
  | [],[],_=>trivial
  | _ :: _,_ :: _,⟨h,k⟩=>⟨repA_wfB h,repA_wfBs k⟩
theorem repA_wfBs':∀ {vs:List Value} {l:List At},vs.length=l.length→(∀ (i:Nat) v a,vs[i]?=some v→l[i]?=some a→Rep C A w v a)→wfBs l
  | [],[],_,_=>trivial
  | v :: _,a :: _,hl,h=>⟨repA_wfB (h 0 v a rfl rfl),repA_wfBs' (by simpa using hl) fun i v a hv ha=>h (i+1) v a hv ha⟩
theorem repA_wfS{v:Value}{s:Sv}(h:RepS C A w v s):wfS s:=by
  cases s with
  | agg l=>obtain ⟨vs,e,h⟩:=h;exact repA_wfBs h
  | one a =>
    have q:Rep C A w v a:=h
    clear h
    cases q with
    | fn hl k=>exact repA_wfBs' hl k
    | words k=>exact repA_wfB (.words k)
    | ref vs hg ha hc k=>exact repA_wfB (.ref vs hg ha hc k)
    | rows vs hl hn hm hg ha hX hb hc k=>exact repA_wfB (.rows vs hl hn hm hg ha hX hb hc k)
    | _=>exact trivial
theorem repA_wfSs:∀ {vs:List Value} {l:List Sv},RepSs C A w vs l→wfSs l
  | [],[],_=>trivial
  | _ :: _,_ :: _,⟨h,k⟩=>⟨repA_wfS h,repA_wfSs k⟩
end
theorem fg_toTv:∀ l:List Sv,fgT (toTv l)=toTv (fgSs l)
  | []=>rfl
  | [_]=>rfl
  | _ :: _ :: _=>rfl
theorem flat_fgA(a:At):flat0 (fgA a)=flat0 a:=by cases a<;>rfl
theorem allFlat_fg:∀ l:List At,allFlat (fgL l)=allFlat l
  | []=>rfl
  | a :: l=>by simp only [fgL,allFlat,flat_fgA,allFlat_fg l]
theorem effOk_pat {P : Program} {E : Env} (hE : EnvOk P E) (hm : P.follows .mixedOrders = true) {f : FuncId} {fn : Func} {c : Code} (hf : P.funcs[f]? = some fn) (hb : fn.body = some c) (hname : (fn.name == "runtime.NumGoroutine") = false) {sp : Spec} (k : Nat) (hk : k ≤ fn.ntmps)
    (h:∀ l args p t,wfBs l→wfSs args→sp (.agg l :: args)=(p,t)→(match p with | none=>True | some p=>p)→args.length≤k∧∃ inv fuel,execFE E inv fuel fn l args (fun x=>x=t∨fgT x=t)):EffOk P f sp:=by
  refine ⟨⟨fn,c,hf,hname,hb⟩,fun C w us l vs ss new rs hn hX0 hX hT hL hus hcell hvs hp hsp hfn hlen=>?_⟩
  obtain ⟨hl,inv,fuel,h⟩:=h l ss (sp (.agg l :: ss)).1 (sp (.agg l :: ss)).2 (repA_wfBs hus) (repA_wfSs hvs) rfl hp
  refine (execFE_ok hE hm hf h hn hX0 hX hT hL hus hcell hvs (by rw [hvs.length];omega)).mono ?_
  rintro e w' ⟨v,new',rs',rfl,hq,h1,h2⟩
  rw [hsp] at hq
  rcases hq with hq | hq
  · cases hq
    exact ⟨v,rfl,h1,h2 hfn⟩
  · have hq:Tv.tup (Sv.agg (fgL new') :: fgSs rs') = .tup (.agg new :: rs):=hq
    cases hq
    refine ⟨v,rfl,fg_toTv rs' ▸ rep_fgT h1,?_⟩
    obtain ⟨e1,e2,⟨us',e3,e4⟩,e5⟩:=h2 (by rw [←allFlat_fg];exact hfn)
    exact ⟨e1,e2,⟨us',rep_fgL e3,e4⟩,e5⟩
def parG(b:Nat)(r:Nat→Rat)(n:Nat):Rat:=sumTo (fun k=>if k % 2=b then r k else 0) n
def sgnS(turned:Bool)(r:Nat→Rat)(n:Nat):Rat:=sumTo (fun k=>(if turned=true then alt k else 1)*r k) n
theorem sgnS_par(r:Nat→Rat):∀ n,sgnS true r n=parG 0 r n-parG 1 r n
  | 0=>by show (0:Rat)=0-0;grind
  | n+1=>by
    have h:=sgnS_par r n
    have e1:sgnS true r (n+1)=sgnS true r n+alt n*r n:=rfl
    have e2:∀ b,parG b r (n+1)=parG b r n+(if n % 2=b then r n else 0):=fun _=>rfl
    rw [e1,e2,e2,h]
    unfold alt
    rcases (show n % 2=0∨n % 2=1 by omega) with k | k<;>rw [k]<;>simp<;>grind
theorem sumS_par(r:Nat→Rat):∀ n,sgnS false r n=parG 0 r n+parG 1 r n
  | 0=>by show (0:Rat)=0+0;grind
  | n+1=>by
    have h:=sumS_par r n
    have e1:sgnS false r (n+1)=sgnS false r n+1*r n:=rfl
    have e2:∀ b,parG b r (n+1)=parG b r n+(if n % 2=b then r n else 0):=fun _=>rfl
    rw [e1,e2,e2,h]
    rcases (show n % 2=0∨n % 2=1 by omega) with k | k<;>rw [k]<;>simp<;>grind
theorem parG_tail{r:Nat→Rat}(h0:∀ k,0≤r k)(h:∀ k,12*r (k+1)≤r k)(b K:Nat):∀ d,parG b r K≤parG b r (K+d)∧11*(parG b r (K+d)-parG b r K)≤12*(r K-r (K+d))
  | 0=>by constructor<;>grind
  | d+1=>by
    have ih:=parG_tail h0 h b K d
    have t0:=h0 (K+d)
    have t1:=h (K+d)
    have e:parG b r (K+(d+1))=parG b r (K+d)+(if (K+d) % 2=b then r (K+d) else 0):=rfl
    rw [e,←Nat.add_assoc]
    split<;>constructor<;>grind
theorem altG_enc{r:Nat→Rat}(h0:∀ k,0≤r k)(h:∀ k,12*r (k+1)≤r k){K:Nat}{a b c d q:Rat}(h1:a≤parG 0 r K)(h2:parG 0 r K≤b)(h3:c≤parG 1 r K)(h4:parG 1 r K≤d)(h5:12*r K≤11*q):Enc (sgnS true r) (a-(d+q)) (b+q-c):=fun e he=>⟨K,fun n hn=>by
  obtain ⟨m,rfl⟩:∃ m,n=K+m:=⟨n-K,by omega⟩
  have p:=parG_tail h0 h 0 K m
  have q:=parG_tail h0 h 1 K m
  have t:=h0 (K+m)
  rw [sgnS_par]
  constructor<;>grind⟩
theorem sumG_enc{r:Nat→Rat}(h0:∀ k,0≤r k)(h:∀ k,12*r (k+1)≤r k){K:Nat}{a b c d q:Rat}(h1:a≤parG 0 r K)(h2:parG 0 r K≤b)(h3:c≤parG 1 r K)(h4:parG 1 r K≤d)(h5:12*r K≤11*q):Enc (sgnS false r) (a+c) (b+q+(d+q)):=fun e he=>⟨K,fun n hn=>by
  obtain ⟨m,rfl⟩:∃ m,n=K+m:=⟨n-K,by omega⟩
  have p:=parG_tail h0 h 0 K m
  have q:=parG_tail h0 h 1 K m
  have t:=h0 (K+m)
  rw [sumS_par]
  constructor<;>grind⟩
def SmT(T:Nat→Fx)(b:Nat):Nat→Fx
  | 0=>⟨0,0⟩
  | k+1=>if k % 2=b then addF (SmT T b k) (T k) else SmT T b k
theorem smT_in{w:Int}{T:Nat→Fx}{r:Nat→Rat}(h:∀ k,InF w (T k) (r k))(b:Nat):∀ k,InF w (SmT T b k) (parG b r k)
  | 0=>InF.zero w
  | k+1=>by
    have e:parG b r (k+1)=parG b r k+(if k % 2=b then r k else 0):=rfl
    rw [e];unfold SmT
    split
    · exact (smT_in h b k).add (h k)
    · rw [Rat.add_zero];exact smT_in h b k
def EncF(w:Int)(z:Fx)(s:Nat→Rat):Prop:=Enc s ((z.a:Rat)*p2 (-w)) (((z.a+z.e:Int):Rat)*p2 (-w))
theorem scale_le{w:Int}{a:Int}{x:Rat}(h:(a:Rat)≤x*p2 w):(a:Rat)*p2 (-w)≤x:=le_div_p2 h
theorem altT_encF{w:Int}{T:Nat→Fx}{r:Nat→Rat}(hT:∀ k,InF w (T k) (r k))(h0:∀ k,0≤r k)(h:∀ k,12*r (k+1)≤r k){K:Nat}{c:Int}(hK:12*(r K*p2 w)≤11*(c:Rat)) :
    EncF w (subF (widerF (SmT T 0 K) c) (widerF (SmT T 1 K) c)) (sgnS true r)∧EncF w (addF (widerF (SmT T 0 K) c) (widerF (SmT T 1 K) c)) (sgnS false r):=by
  obtain ⟨a0,e0,l0,u0⟩:=smT_in hT 0 K
  obtain ⟨a1,e1,l1,u1⟩:=smT_in hT 1 K
  have q:12*r K≤11*((c:Rat)*p2 (-w)):=by
    have p:=rmR hK (rlL (p2_pos (-w)))
    have i:=p2_neg w
    have e:12*(r K*p2 w)*p2 (-w)=12*r K:=by rw [show 12*(r K*p2 w)*p2 (-w)=12*(r K*(p2 w*p2 (-w))) by grind,Rat.mul_comm (p2 w),i,Rat.mul_one]
    rw [e] at p
    grind
  have x:=altG_enc h0 h (K:=K) (scale_le l0) (div_p2_le u0) (scale_le l1) (div_p2_le u1) q
  have y:=sumG_enc h0 h (K:=K) (scale_le l0) (div_p2_le u0) (scale_le l1) (div_p2_le u1) q
  unfold EncF
  constructor
  · refine x.wide ?_ ?_
    · show ((((SmT T 0 K).a-((SmT T 1 K).a+((SmT T 1 K).e+c)):Int)):Rat)*p2 (-w)≤_
      rw [Rat.intCast_sub,rcA,rcA,rcA];grind
    · show _≤((((SmT T 0 K).a-((SmT T 1 K).a+((SmT T 1 K).e+c)))+((SmT T 0 K).e+c+((SmT T 1 K).e+c)):Int):Rat)*p2 (-w)
      rw [show (SmT T 0 K).a-((SmT T 1 K).a+((SmT T 1 K).e+c))+((SmT T 0 K).e+c+((SmT T 1 K).e+c))=(SmT T 0 K).a+(SmT T 0 K).e+c-(SmT T 1 K).a by omega,Rat.intCast_sub,rcA,rcA]
      rw [rcA];grind
  · refine y.wide ?_ ?_
    · show (((SmT T 0 K).a+(SmT T 1 K).a:Int):Rat)*p2 (-w)≤_
      rw [rcA];grind
    · show _≤(((SmT T 0 K).a+(SmT T 1 K).a+((SmT T 0 K).e+c+((SmT T 1 K).e+c)):Int):Rat)*p2 (-w)
      simp only [rcA];grind
def apow(n:Int):Nat→Rat
  | 0=>(n:Rat)⁻¹
  | k+1=>apow n k*((n*n:Int):Rat)⁻¹
def atT(n:Int)(k:Nat):Rat:=apow n k*((2*(k:Int)+1:Int):Rat)⁻¹
theorem apow_nonneg{n:Int}(hn:0<n):∀ k,0≤apow n k
  | 0=>rlL (Rat.inv_pos.2 (cast_lt (a:=0).2 hn))
  | k+1=>rmN (apow_nonneg hn k) (rlL (Rat.inv_pos.2 (cast_lt (a:=0).2 (Int.mul_pos hn hn))))
theorem atT_nonneg{n:Int}(hn:0<n)(k:Nat):0≤atT n k:=rmN (apow_nonneg hn k) (rlL (Rat.inv_pos.2 (cast_lt (a:=0).2 (by omega))))
theorem atT_mul(n:Int)(k:Nat):atT n k*((2*(k:Int)+1:Int):Rat)=apow n k:=by
  have h:((2*(k:Int)+1:Int):Rat)≠0:=by
    have:=cast_lt (a:=0) (b:=2*(k:Int)+1).2 (by omega)
    grind
  rw [atT,Rat.mul_assoc,Rat.inv_mul_cancel _ h,Rat.mul_one]
theorem sq_ge{n:Int}(hn:5≤n):25≤n*n:=by
  have:=Int.mul_le_mul hn hn (by omega) (by omega)
  omega
theorem atT_fall{n:Int}(hn:5≤n)(k:Nat):12*atT n (k+1)≤atT n k:=by
  have a:=atT_mul n k
  have b:=atT_mul n (k+1)
  have hN:(25:Rat)≤((n*n:Int):Rat):=cast_le (a:=25).2 (sq_ge hn)
  have e:apow n (k+1)*((n*n:Int):Rat)=apow n k:=by
    rw [apow,Rat.mul_assoc,Rat.inv_mul_cancel _ (by grind),Rat.mul_one]
  rw [←b] at e
  rw [←e] at a
  have m0:=atT_nonneg (show 0<n by omega) (k+1)
  have c:(1:Rat)≤((2*(k:Int)+1:Int):Rat):=cast_le (a:=1).2 (by omega)
  have d:((2*((k+1:Nat):Int)+1:Int):Rat)=((2*(k:Int)+1:Int):Rat)+2:=by
    rw [show (2*((k+1:Nat):Int)+1:Int)=2*(k:Int)+1+2 by omega,rcA];rfl
  rw [d] at a
  generalize ((2*(k:Int)+1:Int):Rat)=u at *
  have x1:=rmN m0 (show 0≤u by grind)
  have x2:=rmL hN (show 0≤atT n (k+1)*(u+2) by have:=rmN m0 (show 0≤u+2 by grind);exact this)
  refine Rat.not_lt.1 fun g=>?_
  have x3:=Rat.mul_lt_mul_of_pos_right g (show 0<u by grind)
  grind
def invP(n w:Int):Nat→Fx
  | 0=>shortF ⟨2^w.toNat,0⟩ n
  | k+1=>shortF (invP n w k) (n*n)
def invT(n w:Int):Nat→Fx
  | 0=>invP n w 0
  | k+1=>shortF (invP n w (k+1)) (2*((k+1:Nat):Int)+1)
structure InvOk (n w:Int):Prop where
  n0:5≤n
  n1:n≤10000
  w0:32≤w
  w1:w≤65536
section
variable {n w:Int} (h:InvOk n w)
include h
theorem invP_in:∀ k,InF w (invP n w k) (apow n k)
  | 0=>by
    have:=h.n0
    have k:=(InF.one (w:=w) (by have:=h.w0;omega)).short (d:=n) (by omega)
    rwa [Rat.one_mul] at k
  | k+1=>(invP_in k).short (d:=n*n) (by have:=sq_ge h.n0;omega)
theorem invT_in:∀ k,InF w (invT n w k) (atT n k)
  | 0=>by
    have e:atT n 0=apow n 0:=by have:=atT_mul n 0;rw [←this];simp
    rw [e];exact invP_in h 0
  | k+1=>(invP_in h (k+1)).short (by omega)
theorem invP_e:∀ k,(invP n w k).e=2
  | 0=>by show 0/n+2=2;simp
  | k+1=>by
    show (invP n w k).e/(n*n)+2=2
    rw [invP_e k,Int.ediv_eq_zero_of_lt (by omega) (by have:=sq_ge h.n0;omega)];omega
theorem invT_e:∀ k,(invT n w k).e=2
  | 0=>invP_e h 0
  | k+1=>by
    show (invP n w (k+1)).e/_+2=2
    rw [invP_e h,Int.ediv_eq_zero_of_lt (by omega) (by omega)];omega
theorem invP_small:∀ k,(invP n w k).a*2^k≤2^w.toNat
  | 0=>by
    show 2^w.toNat/n*2^0≤2^w.toNat
    have:=Int.ediv_le_self n (show (0:Int)≤2^w.toNat by have:=two_pow_pos w.toNat;omega)
    omega
  | k+1=>by
    have ih:=invP_small k
    have a0:=(invP_in h k).a0
    have q:(invP n w k).a/(n*n)≤(invP n w k).a/2:=div_anti a0 (by omega) (by have:=sq_ge h.n0;omega)
    show (invP n w k).a/(n*n)*2^(k+1)≤2^w.toNat
    have p:=two_pow_pos k
    have m:=imR (show 2*((invP n w k).a/(n*n))≤(invP n w k).a by omega) (show (0:Int)≤2^k by omega)
    rw [Int.pow_succ]
    have e:(invP n w k).a/(n*n)*(2^k*2)=2*((invP n w k).a/(n*n))*2^k:=by rw [Int.mul_comm (2^k:Int) 2,←Int.mul_assoc,Int.mul_comm ((invP n w k).a/(n*n)) 2]
    rw [e];omega
theorem invT_le(k:Nat):(invT n w k).a≤(invP n w k).a:=by
  cases k with
  | zero=>exact Int.le_refl _
  | succ k=>exact Int.ediv_le_self _ (invP_in h (k+1)).a0
theorem invT_end:(invT n w (w.toNat+1)).a=0:=by
  have a:=invP_small h (w.toNat+1)
  have b:=invT_le h (w.toNat+1)
  have c:=(invT_in h (w.toNat+1)).a0
  have p:=two_pow_pos w.toNat
  have z:(invP n w (w.toNat+1)).a<1:=by
    refine Int.not_le.1 fun g=>?_
    have m:=imR g (show (0:Int)≤2^(w.toNat+1) by have:=two_pow_pos (w.toNat+1);omega)
    rw [Int.one_mul] at m
    have e:(2:Int)^(w.toNat+1)=2*2^w.toNat:=by rw [Int.pow_succ];omega
    omega
  omega
def invK(n w:Int):Nat:=findK (fun k=>decide ((invT n w k).a=0)) 1048576 1
theorem invK_spec:1≤invK n w∧(invK n w:Int)≤w+1∧(invT n w (invK n w)).a=0∧∀ k,1≤k→k<invK n w→(invT n w k).a≠0:=by
  have w0:=h.w0
  have w1:=h.w1
  obtain ⟨a,b,c,d⟩:=findK_spec (P:=fun k=>decide ((invT n w k).a=0)) 1048576 1 (w.toNat+1) (by omega) (by omega) (by simpa using invT_end h)
  exact ⟨a,by unfold invK;omega,of_decide_eq_true c,fun k x y=>of_decide_eq_false (d k x y)⟩
end
def invR(n w:Int)(b:Nat):Fx:=widerF (SmT (invT n w) b (invK n w)) ((invT n w (invK n w)).e+4)
def invS(n w:Int)(turned:Bool):Fx:=if turned=true then subF (invR n w 0) (invR n w 1) else addF (invR n w 0) (invR n w 1)
theorem invS_enc{n w:Int}(h:InvOk n w)(turned:Bool):EncF w (invS n w turned) (sgnS turned (atT n)):=by
  obtain ⟨k1,k2,k3,k4⟩:=invK_spec h
  have u:=(invT_in h (invK n w)).2.2.2
  rw [k3,invT_e h] at u
  have e:=altT_encF (w:=w) (T:=invT n w) (r:=atT n) (invT_in h) (atT_nonneg (by have:=h.n0;omega)) (atT_fall h.n0) (K:=invK n w) (c:=6) (by
    have:((0+2:Int):Rat)=2:=rfl
    rw [this] at u
    have:((6:Int):Rat)=6:=rfl
    rw [this];grind)
  unfold invS invR
  rw [invT_e h]
  cases turned with
  | true=>rw [if_pos rfl];exact e.1
  | false=>rw [if_neg (by simp)];exact e.2
section
variable {n w:Int} (h:InvOk n w)
include h
theorem invP_half(k:Nat):25*(invP n w (k+1)).a≤(invP n w k).a:=by
  have a0:=(invP_in h k).a0
  have q:(invP n w k).a/(n*n)≤(invP n w k).a/25:=div_anti a0 (by omega) (sq_ge h.n0)
  show 25*((invP n w k).a/(n*n))≤(invP n w k).a
  omega
theorem smI_a(b:Nat):∀ k,0≤(SmT (invT n w) b k).a∧(SmT (invT n w) b k).a+2*(invP n w k).a≤2*(invP n w 0).a
  | 0=>⟨Int.le_refl _,by show 0+2*(invP n w 0).a≤_;omega⟩
  | k+1=>by
    obtain ⟨i0,i1⟩:=smI_a b k
    have p:=invP_half h k
    have p0:=(invP_in h (k+1)).a0
    have t:=invT_le h k
    have t0:=(invT_in h k).a0
    unfold SmT
    split
    · exact ⟨by show 0≤_+_;omega,by show _+(invT n w k).a+_≤_;omega⟩
    · exact ⟨i0,by omega⟩
theorem smI_e(b:Nat):∀ k,0≤(SmT (invT n w) b k).e∧(SmT (invT n w) b k).e≤2*(k:Int)
  | 0=>⟨Int.le_refl _,by show (0:Int)≤_;omega⟩
  | k+1=>by
    obtain ⟨i0,i1⟩:=smI_e b k
    have t:=invT_e h k
    unfold SmT
    split
    · exact ⟨by show 0≤_+_;omega,by show _+(invT n w k).e≤_;omega⟩
    · exact ⟨i0,by omega⟩
theorem smI_even:∀ k,(invP n w 0).a≤(SmT (invT n w) 0 (k+1)).a
  | 0=>by
    show _≤(addF ⟨0,0⟩ (invT n w 0)).a
    show (invP n w 0).a≤0+(invP n w 0).a
    omega
  | k+1=>by
    have i:=smI_even k
    have t0:=(invT_in h (k+1)).a0
    rw [SmT]
    split
    · show _≤_+_;omega
    · exact i
theorem smI_odd:∀ k,(SmT (invT n w) 1 (k+1)).a+2*(invP n w (k+1)).a≤2*(invP n w 1).a
  | 0=>by
    show (0:Int)+2*(invP n w 1).a≤2*(invP n w 1).a
    omega
  | k+1=>by
    have i:=smI_odd k
    have p:=invP_half h (k+1)
    have p0:=(invP_in h (k+1+1)).a0
    have t:=invT_le h (k+1)
    rw [SmT]
    split
    · show _+(invT n w (k+1)).a+_≤_;omega
    · omega
theorem invR_bd:(invP n w 0).a≤(invR n w 0).a∧(invR n w 0).a≤2*(invP n w 0).a∧0≤(invR n w 1).a∧25*(invR n w 1).a≤2*(invP n w 0).a∧6≤(invR n w 0).e∧(invR n w 0).e≤2*w+8∧6≤(invR n w 1).e∧(invR n w 1).e≤2*w+8:=by
  obtain ⟨k1,k2,k3,k4⟩:=invK_spec h
  obtain ⟨j,hj⟩:∃ j,invK n w=j+1:=⟨invK n w-1,by omega⟩
  have a:=smI_a h 0 (invK n w)
  have b:=smI_a h 1 (invK n w)
  have c:=smI_e h 0 (invK n w)
  have d:=smI_e h 1 (invK n w)
  have e:=smI_even h j
  have f:=smI_odd h j
  have g:=(invP_in h (j+1)).a0
  have i:=invP_half h 0
  have p:=(invP_in h (invK n w)).a0
  have te:=invT_e h (invK n w)
  rw [←hj] at e f g
  unfold invR widerF
  rw [te]
  show (invP n w 0).a≤(SmT (invT n w) 0 (invK n w)).a∧(SmT (invT n w) 0 (invK n w)).a≤_∧0≤(SmT (invT n w) 1 (invK n w)).a∧25*(SmT (invT n w) 1 (invK n w)).a≤_∧6≤(SmT (invT n w) 0 (invK n w)).e+(2+4)∧(SmT (invT n w) 0 (invK n w)).e+(2+4)≤_∧6≤(SmT (invT n w) 1 (invK n w)).e+(2+4)∧(SmT (invT n w) 1 (invK n w)).e+(2+4)≤_
  refine ⟨e,by omega,b.1,?_,by omega,by omega,by omega,by omega⟩
  have i':25*(invP n w 1).a≤(invP n w 0).a:=i
  omega
end
theorem pow_big:∀ k:Nat,((k:Int)+1)*4294967296≤2^(k+32)
  | 0=>by decide
  | k+1=>by
    have i:=pow_big k
    have e:(2:Int)^(k+1+32)=2*2^(k+32):=by rw [show k+1+32=k+32+1 by omega,Int.pow_succ];omega
    rw [e]
    omega
theorem InvOk.big{n w:Int}(h:InvOk n w):429496*(w-31)≤(invP n w 0).a+1:=by
  have w0:=h.w0
  have n0:=h.n0
  have n1:=h.n1
  have p:=pow_big (w.toNat-32)
  rw [show w.toNat-32+32=w.toNat by omega] at p
  show 429496*(w-31)≤2^w.toNat/n+1
  have q:2^w.toNat/10000≤2^w.toNat/n:=div_anti (by have:=two_pow_pos w.toNat;omega) (by omega) n1
  omega
theorem Enc.scale{s:Nat→Rat}{a b c:Rat}(h:Enc s a b)(hc:0≤c):Enc (fun n=>c*s n) (c*a) (c*b):=by
  refine Enc.mul (Enc.const c) h ?_
  have l:=rmL h.self hc
  rintro x y (rfl | rfl) (rfl | rfl)<;>exact ⟨by grind,by grind⟩
def timesF(z:Fx)(n:Int):Fx:=⟨z.a*n,z.e*n⟩
theorem EncF.times{w:Int}{z:Fx}{s:Nat→Rat}(h:EncF w z s){n:Int}(hn:0≤n):EncF w (timesF z n) (fun m=>(n:Rat)*s m):=by
  have k:=h.scale (c:=(n:Rat)) (by rw [show (0:Rat)=((0:Int):Rat) from rfl];exact cast_le.2 hn)
  unfold EncF timesF
  refine k.wide ?_ ?_
  · show ((z.a*n:Int):Rat)*p2 (-w)≤_
    rw [rcM];grind
  · show _≤((z.a*n+z.e*n:Int):Rat)*p2 (-w)
    rw [←Int.add_mul,rcM];grind
theorem EncF.sub{w:Int}{x y:Fx}{s t:Nat→Rat}(h:EncF w x s)(k:EncF w y t):EncF w (subF x y) (fun m=>s m + -t m):=by
  have e:=h.add k.neg
  unfold EncF subF
  refine e.wide ?_ ?_
  · show ((x.a-(y.a+y.e):Int):Rat)*p2 (-w)≤_
    rw [Rat.intCast_sub];grind
  · show _≤((x.a-(y.a+y.e)+(x.e+y.e):Int):Rat)*p2 (-w)
    rw [show x.a-(y.a+y.e)+(x.e+y.e)=x.a+x.e-y.a by omega,Rat.intCast_sub];grind
def piF(w:Int):Fx:=subF (timesF (invS 5 w true) 16) (timesF (invS 239 w true) 4)
def piS(m:Nat):Rat:=16*sgnS true (atT 5) m + -(4*sgnS true (atT 239) m)
theorem piF_enc{w:Int}(w0:32≤w)(w1:w≤65536):EncF w (piF w) piS :=
  ((invS_enc ⟨by omega,by omega,w0,w1⟩ true).times (n:=16) (by omega)).sub ((invS_enc ⟨by omega,by omega,w0,w1⟩ true).times (n:=4) (by omega))
def refP(n w:Int):Nat→Fx
  | 0=>shortF ⟨2^w.toNat,0⟩ n
  | k+1=>shortF (shortF (refP n w k) n) n
def refT(n w:Int):Nat→Fx
  | 0=>refP n w 0
  | k+1=>shortF (refP n w (k+1)) (2*((k+1:Nat):Int)+1)
section
variable {n w:Int} (h:InvOk n w)
include h
theorem refP_in:∀ k,InF w (refP n w k) (apow n k)
  | 0=>by
    have:=h.n0
    have k:=(InF.one (w:=w) (by have:=h.w0;omega)).short (d:=n) (by omega)
    rwa [Rat.one_mul] at k
  | k+1=>by
    have n0:=h.n0
    have i:=((refP_in k).short (d:=n) (by omega)).short (d:=n) (by omega)
    have e:apow n (k+1)=apow n k*(n:Rat)⁻¹*(n:Rat)⁻¹:=by
      rw [apow,rcM,Rat.inv_mul_rev,Rat.mul_assoc]
    rw [e];exact i
theorem refT_in:∀ k,InF w (refT n w k) (atT n k)
  | 0=>by
    have e:atT n 0=apow n 0:=by have:=atT_mul n 0;rw [←this];simp
    rw [e];exact refP_in h 0
  | k+1=>(refP_in h (k+1)).short (by omega)
theorem refP_e:∀ k,(refP n w k).e=2
  | 0=>by show 0/n+2=2;simp
  | k+1=>by
    have n0:=h.n0
    show ((refP n w k).e/n+2)/n+2=2
    have z:(2:Int)/n=0:=Int.ediv_eq_zero_of_lt (by omega) (by omega)
    rw [refP_e k,z,Int.zero_add,z];omega
theorem refT_e:∀ k,(refT n w k).e=2
  | 0=>refP_e h 0
  | k+1=>by
    show (refP n w (k+1)).e/_+2=2
    rw [refP_e h,Int.ediv_eq_zero_of_lt (by omega) (by omega)];omega
theorem refP_half(k:Nat):25*(refP n w (k+1)).a≤(refP n w k).a:=by
  have a0:=(refP_in h k).a0
  have n0:=h.n0
  have q0:=Int.ediv_nonneg a0 (show (0:Int)≤n by omega)
  have q1:(refP n w k).a/n≤(refP n w k).a/5:=div_anti a0 (by omega) n0
  have q2:(refP n w k).a/n/n≤(refP n w k).a/n/5:=div_anti q0 (by omega) n0
  show 25*((refP n w k).a/n/n)≤(refP n w k).a
  omega
theorem refT_le(k:Nat):(refT n w k).a≤(refP n w k).a:=by
  cases k with
  | zero=>exact Int.le_refl _
  | succ k=>exact Int.ediv_le_self _ (refP_in h (k+1)).a0
theorem refP_small:∀ k,(refP n w k).a*2^k≤2^w.toNat
  | 0=>by
    show 2^w.toNat/n*2^0≤2^w.toNat
    have:=Int.ediv_le_self n (show (0:Int)≤2^w.toNat by have:=two_pow_pos w.toNat;omega)
    omega
  | k+1=>by
    have ih:=refP_small k
    have a0:=(refP_in h (k+1)).a0
    have q:=refP_half h k
    have m:=imR (show 2*(refP n w (k+1)).a≤(refP n w k).a by omega) (show (0:Int)≤2^k by have:=two_pow_pos k;omega)
    rw [Int.pow_succ]
    have e:(refP n w (k+1)).a*(2^k*2)=2*(refP n w (k+1)).a*2^k:=by rw [Int.mul_comm (2^k:Int) 2,←Int.mul_assoc,Int.mul_comm (refP n w (k+1)).a 2]
    rw [e];omega
theorem refP_end:(refP n w (w.toNat+1)).a=0:=by
  have a:=refP_small h (w.toNat+1)
  have c:=(refP_in h (w.toNat+1)).a0
  have p:=two_pow_pos w.toNat
  have z:(refP n w (w.toNat+1)).a<1:=by
    refine Int.not_le.1 fun g=>?_
    have m:=imR g (show (0:Int)≤2^(w.toNat+1) by have:=two_pow_pos (w.toNat+1);omega)
    rw [Int.one_mul] at m
    have e:(2:Int)^(w.toNat+1)=2*2^w.toNat:=by rw [Int.pow_succ];omega
    omega
  omega
def refK(n w:Int):Nat:=findK (fun k=>decide ((refP n w k).a=0)) 1048576 0
theorem refK_spec:(refK n w:Int)≤w+1∧(refP n w (refK n w)).a=0∧∀ k,k<refK n w→(refP n w k).a≠0:=by
  have w0:=h.w0
  have w1:=h.w1
  obtain ⟨a,b,c,d⟩:=findK_spec (P:=fun k=>decide ((refP n w k).a=0)) 1048576 0 (w.toNat+1) (by omega) (by omega) (by simpa using refP_end h)
  exact ⟨by unfold refK;omega,of_decide_eq_true c,fun k y=>of_decide_eq_false (d k (Nat.zero_le _) y)⟩
theorem smR_a(b:Nat):∀ k,0≤(SmT (refT n w) b k).a∧(SmT (refT n w) b k).a+2*(refP n w k).a≤2*(refP n w 0).a
  | 0=>⟨Int.le_refl _,by show 0+2*(refP n w 0).a≤_;omega⟩
  | k+1=>by
    obtain ⟨i0,i1⟩:=smR_a b k
    have p:=refP_half h k
    have p0:=(refP_in h (k+1)).a0
    have t:=refT_le h k
    have t0:=(refT_in h k).a0
    unfold SmT
    split
    · exact ⟨by show 0≤_+_;omega,by show _+(refT n w k).a+_≤_;omega⟩
    · exact ⟨i0,by omega⟩
theorem smR_e(b:Nat):∀ k,0≤(SmT (refT n w) b k).e∧(SmT (refT n w) b k).e≤2*(k:Int)
  | 0=>⟨Int.le_refl _,by show (0:Int)≤_;omega⟩
  | k+1=>by
    obtain ⟨i0,i1⟩:=smR_e b k
    have t:=refT_e h k
    unfold SmT
    split
    · exact ⟨by show 0≤_+_;omega,by show _+(refT n w k).e≤_;omega⟩
    · exact ⟨i0,by omega⟩
theorem smR_even:∀ k,(refP n w 0).a≤(SmT (refT n w) 0 (k+1)).a
  | 0=>by
    show (refP n w 0).a≤0+(refP n w 0).a
    omega
  | k+1=>by
    have i:=smR_even k
    have t0:=(refT_in h (k+1)).a0
    rw [SmT]
    split
    · show _≤_+_;omega
    · exact i
theorem smR_odd:∀ k,(SmT (refT n w) 1 (k+1)).a+2*(refP n w (k+1)).a≤2*(refP n w 1).a
  | 0=>by
    show (0:Int)+2*(refP n w 1).a≤2*(refP n w 1).a
    omega
  | k+1=>by
    have i:=smR_odd k
    have p:=refP_half h (k+1)
    have p0:=(refP_in h (k+1+1)).a0
    have t:=refT_le h (k+1)
    rw [SmT]
    split
    · show _+(refT n w (k+1)).a+_≤_;omega
    · omega
end
def refS(n w:Int):Fx:=subF (widerF (SmT (refT n w) 0 (refK n w+1)) 4) (widerF (SmT (refT n w) 1 (refK n w+1)) 4)
theorem refS_enc{n w:Int}(h:InvOk n w):EncF w (refS n w) (sgnS true (atT n)):=by
  obtain ⟨k2,k3,k4⟩:=refK_spec h
  have u:=(refP_in h (refK n w)).2.2.2
  rw [k3,refP_e h] at u
  refine (altT_encF (w:=w) (T:=refT n w) (r:=atT n) (refT_in h) (atT_nonneg (by have:=h.n0;omega)) (atT_fall h.n0) (K:=refK n w+1) (c:=4) ?_).1
  have f:=atT_fall h.n0 (refK n w)
  have m:=atT_mul n (refK n w)
  have t0:=atT_nonneg (show 0<n by have:=h.n0;omega) (refK n w)
  have c:(1:Rat)≤((2*(refK n w:Int)+1:Int):Rat):=cast_le (a:=1).2 (by omega)
  have m1:=rmL c t0
  rw [m] at m1
  have m2:=rmR (show 12*atT n (refK n w+1)≤apow n (refK n w) by grind) (rlL (p2_pos w))
  have e2:((0+2:Int):Rat)=2:=rfl
  have e4:((4:Int):Rat)=4:=rfl
  rw [e2] at u
  rw [e4]
  grind
def piR(w:Int):Fx:=subF (timesF (refS 5 w) 16) (timesF (refS 239 w) 4)
theorem piR_enc{w:Int}(w0:32≤w)(w1:w≤65536):EncF w (piR w) piS :=
  ((refS_enc ⟨by omega,by omega,w0,w1⟩).times (n:=16) (by omega)).sub ((refS_enc ⟨by omega,by omega,w0,w1⟩).times (n:=4) (by omega))
def wInv(gP:Fx→Int→Fx)(gT:Fx→Int→Int→Fx)(pr:Fx→Int→Int→Prop):Spec:=fun l=>match l with
  | [.agg [.words false ps,.int .u64 pe],.agg [.words false _,.int .u64 _],.one (.int .i64 k),.one (.ptr 0 0),.one (.ref [.int .u64 sq])] =>
    (some (ps=ws (val ps)∧pr ⟨val ps,pe⟩ k sq),.tup [.agg (fwL false (fw (gP ⟨val ps,pe⟩ sq))),.agg (fwL false (fw (gT ⟨val ps,pe⟩ k sq)))])
  | _=>noSpec
def sI1:List (FuncId×Spec):=[(125,seShort)]
theorem sI1_ok:SpecsOk Tryz.prog sI1:=⟨seShort_ok,trivial⟩
theorem cInv_vc(ps xs:List Int)(pe e k sq:Int)(Q:Tv→Prop):execFE ⟨tys3,sI1⟩ (fun _=>none) 0 Tryz.f166 [.words false ps,.int .u64 pe] [.agg [.words false xs,.int .u64 e],.one (.int .i64 k),.one (.ptr 0 0),.one (.ref [.int .u64 sq])] Q=(((0:Int)≤pe∧pe≤1099511627776∧(0:Int)<sq∧sq<18446744073709551616)∧inR ((2:Int)*k)∧inR ((2:Int)*k+1)∧((0:Int)≤(fw (shortF (Fw.f (Fw.mk ps pe)) sq)).e∧(fw (shortF (Fw.f (Fw.mk ps pe)) sq)).e≤1099511627776∧(0:Int)<IntKind.wrap IntKind.u64 ((2:Int)*k+1)∧IntKind.wrap IntKind.u64 ((2:Int)*k+1)<18446744073709551616)∧Q (Tv.tup [Sv.agg (fwL false (fw (shortF (Fw.f (Fw.mk ps pe)) sq))),Sv.agg (fwL false (fw (shortF (Fw.f (fw (shortF (Fw.f (Fw.mk ps pe)) sq))) (IntKind.wrap IntKind.u64 ((2:Int)*k+1)))))])):=by kernel_rfl
def gPI(x:Fx)(sq:Int):Fx:=shortF x sq
def gTI(x:Fx)(k sq:Int):Fx:=shortF (shortF x sq) (2*k+1)
def prI(x:Fx)(k sq:Int):Prop:=x.Ok∧x.e≤549755813888∧0<sq∧sq<18446744073709551616∧1≤k∧k≤1048577
theorem cInv_ok:EffOk Tryz.prog 166 (wInv gPI gTI prI) :=
  effOk_pat (envOk tys3_ok sI1_ok) mixed Tryz.func166 rfl (by decide) 4 (by decide) fun l args p t _ _ e hp=>by
    unfold wInv at e
    split at e
    · rename_i ps pe xs e0 k sq heq
      cases heq
      cases e
      obtain ⟨hx,ox,xe,s0,s1,k0,k1⟩:ps=ws (val ps)∧prI ⟨val ps,pe⟩ k sq:=hp
      have z:=shortF_e0 (x:=⟨val ps,pe⟩) (d:=sq) ox.1 ox.2.2.1 s0
      refine ⟨Nat.le_refl 4,fun _=>none,0,(cInv_vc ps xs pe e0 k sq _).mpr ?_⟩
      have e1:IntKind.u64.wrap (2*k+1)=2*k+1:=wrap_w ⟨by omega,by omega⟩
      have e2:(fw (shortF ⟨val ps,pe⟩ sq)).f=shortF ⟨val ps,pe⟩ sq:=fw_f z.1
      have e3:(Fw.mk ps pe).f=⟨val ps,pe⟩:=rfl
      have e4:∀ z:Fx,(fw z).e=z.e:=fun _=>rfl
      have b1:(0:Int)≤pe:=ox.2.2.1
      have b2:pe≤549755813888:=xe
      have b3:=z.2.2
      have b4:(⟨val ps,pe⟩:Fx).e=pe:=rfl
      rw [e3,e2,e1,e4]
      exact ⟨⟨by omega,by omega,s0,s1⟩,⟨by omega,by omega⟩,⟨by omega,by omega⟩,⟨by omega,by omega,by omega,by omega⟩,.inl rfl⟩
    · cases e;exact hp.elim
def pwQ(p0:Fx)(sq:Int):Nat→Fx
  | 0=>p0
  | k+1=>shortF (pwQ p0 sq k) sq
def tmQ(p0:Fx)(sq:Int):Nat→Fx
  | 0=>p0
  | k+1=>shortF (pwQ p0 sq (k+1)) (2*((k+1:Nat):Int)+1)
theorem pwQ_inv(n w:Int):∀ k,pwQ (shortF ⟨2^w.toNat,0⟩ n) (n*n) k=invP n w k
  | 0=>rfl
  | k+1=>by show shortF (pwQ _ _ k) _=shortF (invP n w k) _;rw [pwQ_inv n w k]
theorem tmQ_inv(n w:Int)(k:Nat):tmQ (shortF ⟨2^w.toNat,0⟩ n) (n*n) k=invT n w k:=by
  cases k with
  | zero=>rfl
  | succ k=>show shortF (pwQ _ _ (k+1)) _=shortF (invP n w (k+1)) _;rw [pwQ_inv]
def kQ(p0:Fx)(sq:Int):Nat:=findK (fun k=>decide ((tmQ p0 sq k).a=0)) 1048576 1
def sumQ(p0:Fx)(sq:Int)(b:Nat):Fx:=widerF (SmT (tmQ p0 sq) b (kQ p0 sq)) ((tmQ p0 sq (kQ p0 sq)).e+4)
def QOk(p0:Fx)(sq:Int):Prop :=
  1≤kQ p0 sq∧kQ p0 sq≤1048577∧(tmQ p0 sq (kQ p0 sq)).a=0∧(∀ k,1≤k→k<kQ p0 sq→(tmQ p0 sq k).a≠0)∧(∀ k,k<kQ p0 sq→prI (pwQ p0 sq k) ((k:Int)+1) sq) ∧
    (∀ k,k≤kQ p0 sq→((tmQ p0 sq k).Ok∧(tmQ p0 sq k).e≤549755813888)∧(SmT (tmQ p0 sq) 0 k).Ok∧(SmT (tmQ p0 sq) 1 k).Ok)
def sSmI(gP:Fx→Int→Fx)(gT:Fx→Int→Int→Fx)(pr:Fx→Int→Int→Prop):List (FuncId×Spec):=[(151,seAdd),(126,seWid),(166+effK,wInv gP gT pr)]
theorem sSmI_ok:SpecsOk Tryz.prog (sSmI gPI gTI prI):=⟨seAdd_ok,seWid_ok,cInv_ok,trivial⟩
def siK:LKeep:=⟨[1,4,5,6,7,8],[(0,2),(2,2),(3,2),(5,4),(8,2)],11⟩
def invFn(sq:Int):At:=.fn 166 [.ptr 0 0,.ref [.int .u64 sq]]
def siCells(P T S0 S1:Nat→Fx)(k j:Nat)(n0 n1:Bool):List (Nat×Nat×At) :=
  clX 0 0 false (fw (P k)) ++ ([(2,0,.words true []),(2,1,.int .u64 0),(3,0,.words true []),(3,1,.int .u64 0)] ++ (clX 5 0 n0 (fw (S0 j)) ++ (clX 5 2 n1 (fw (S1 j)) ++ clX 8 0 false (fw (T k)))))
def siSlots(sq:Int)(k:Nat):List (Nat×Tv):=[(1,.sv (.one (invFn sq))),(4,.sv (.one (.ptr 2 0))),(5,.sv (.one (.ptr 3 0))),(6,.sv (.one (.ptr 5 0))),(7,.sv (.one (.ptr 8 0))),(8,iT (k:Nat))]
def siSt(sq:Int)(P T S0 S1:Nat→Fx)(a:Nat×Bool×Bool):List (Nat×Tv)×List (Nat×Nat×At):=(siSlots sq a.1,siCells P T S0 S1 a.1 a.1 a.2.1 a.2.2)
def siSt7(sq:Int)(P T S0 S1:Nat→Fx)(a:Nat×Bool×Bool):List (Nat×Tv)×List (Nat×Nat×At):=(siSlots sq a.1,siCells P T S0 S1 a.1 (a.1+1) a.2.1 a.2.2)
def siCut(sq:Int)(P T S0 S1:Nat→Fx)(K:Nat)(a:Nat×Bool×Bool)(n:Nat):Option LInv :=
  match Nat.beq 6 n with
  | true=>some (.cut siK (Nat×Bool×Bool) (siSt sq P T S0 S1) (fun x=>x.1=a.1∧x.1<K))
  | false=>match Nat.beq 7 n with
    | true=>some (.cut siK (Nat×Bool×Bool) (siSt7 sq P T S0 S1) (fun x=>x.1=a.1∧x.1<K))
    | false=>none
def siInv(sq:Int)(P T S0 S1:Nat→Fx)(K:Nat):Nat→Option LInv :=
  invAt 4 (.relI siK (Nat×Bool×Bool) (siSt sq P T S0 S1) (fun a=>a.1≤K) (fun a=>K-a.1) (siCut sq P T S0 S1 K))
theorem sumI_vc(gP:Fx→Int→Fx)(gT:Fx→Int→Int→Fx)(pr:Fx→Int→Int→Prop)(P T S0 S1:Nat→Fx)(K:Nat)(t:Fw)(ps:List Int)(pe sq:Int)(Q:Tv→Prop):execFE ⟨tys4,sSmI gP gT pr⟩ (siInv sq P T S0 S1 K) 0 Tryz.f121 [.words false ps,.int .u64 pe] [.agg (fwL false t),.one (invFn sq)] Q=(true=true∧(∃ (a:Nat×Bool×Bool),a.fst≤K∧Sg.mk [(1,Tv.sv (Sv.one (At.fn 166 [At.ptr 0 0,At.ref [At.int .u64 sq]]))),(4,Tv.sv (Sv.one (At.ptr ((1:Nat)+1) 0))),(5,Tv.sv (Sv.one (At.ptr ((1:Nat)+2) 0))),(6,Tv.sv (Sv.one (At.ptr ((4:Nat)+1) 0))),(7,Tv.sv (Sv.one (At.ptr ((7:Nat)+1) 0))),(8,iT 0)] [(0,0,At.words false ps),(0,1,At.int .u64 pe),(2,0,At.words true []),(2,1,At.int .u64 0),(3,0,At.words true []),(3,1,At.int .u64 0),(5,0,At.words true []),(5,1,At.int .u64 0),(5,2,At.words true []),(5,3,At.int .u64 0),(8,0,At.words false t.xs),(8,1,At.int .u64 t.e)] 11=LKeep.at siK (siSt sq P T S0 S1 a))∧∀ (a:Nat×Bool×Bool),a.fst≤K→br (ltI 0 (↑(List.length (fw (T a.fst)).xs):Int)) (true=true∧∃ (x:Nat×Bool×Bool),(x.fst=a.fst∧x.fst<K)∧Sg.mk [(1,Tv.sv (Sv.one (At.fn 166 [At.ptr 0 0,At.ref [At.int .u64 sq]]))),(4,Tv.sv (Sv.one (At.ptr 2 0))),(5,Tv.sv (Sv.one (At.ptr 3 0))),(6,Tv.sv (Sv.one (At.ptr 5 0))),(7,Tv.sv (Sv.one (At.ptr 8 0))),(8,iT (↑a.fst:Int))] [(0,0,At.words false (fw (P a.fst)).xs),(0,1,At.int .u64 (fw (P a.fst)).e),(2,0,At.words true []),(2,1,At.int .u64 0),(3,0,At.words true []),(3,1,At.int .u64 0),(5,0,At.words a.snd.fst (fw (S0 a.fst)).xs),(5,1,At.int .u64 (fw (S0 a.fst)).e),(5,2,At.words a.snd.snd (fw (S1 a.fst)).xs),(5,3,At.int .u64 (fw (S1 a.fst)).e),(8,0,At.words false (fw (T a.fst)).xs),(8,1,At.int .u64 (fw (T a.fst)).e)] 11=LKeep.at siK (siSt sq P T S0 S1 x)) (br (eqI (↑a.fst:Int) 0) (true=true∧∃ (x:Nat×Bool×Bool),(x.fst=a.fst∧x.fst<K)∧Sg.mk [(1,Tv.sv (Sv.one (At.fn 166 [At.ptr 0 0,At.ref [At.int .u64 sq]]))),(4,Tv.sv (Sv.one (At.ptr 2 0))),(5,Tv.sv (Sv.one (At.ptr 3 0))),(6,Tv.sv (Sv.one (At.ptr 5 0))),(7,Tv.sv (Sv.one (At.ptr 8 0))),(8,iT (↑a.fst:Int))] [(0,0,At.words false (fw (P a.fst)).xs),(0,1,At.int .u64 (fw (P a.fst)).e),(2,0,At.words true []),(2,1,At.int .u64 0),(3,0,At.words true []),(3,1,At.int .u64 0),(5,0,At.words a.snd.fst (fw (S0 a.fst)).xs),(5,1,At.int .u64 (fw (S0 a.fst)).e),(5,2,At.words a.snd.snd (fw (S1 a.fst)).xs),(5,3,At.int .u64 (fw (S1 a.fst)).e),(8,0,At.words false (fw (T a.fst)).xs),(8,1,At.int .u64 (fw (T a.fst)).e)] 11=LKeep.at siK (siSt sq P T S0 S1 x)) (((0:Int)≤0∧(0:Int)<(↑(2:Nat):Int))∧(Fw.Ok (fw (S0 a.fst))∧(0:Int)≤IntKind.wrap IntKind.u64 ((fw (T a.fst)).e+4)∧IntKind.wrap IntKind.u64 ((fw (T a.fst)).e+4)≤1099511627776∧(fw (S0 a.fst)).xs=ws (val (fw (S0 a.fst)).xs))∧((0:Int)≤1∧(1:Int)<(↑(2:Nat):Int))∧(Fw.Ok (fw (S1 a.fst))∧(0:Int)≤IntKind.wrap IntKind.u64 ((fw (T a.fst)).e+4)∧IntKind.wrap IntKind.u64 ((fw (T a.fst)).e+4)≤1099511627776∧(fw (S1 a.fst)).xs=ws (val (fw (S1 a.fst)).xs))∧true=true∧Q (Tv.tup [Sv.agg (fwL false (fw (P a.fst))),Sv.agg (fwL false (fw (widerF (Fw.f (fw (S0 a.fst))) (IntKind.wrap IntKind.u64 ((fw (T a.fst)).e+4))))),Sv.agg (fwL false (fw (widerF (Fw.f (fw (S1 a.fst))) (IntKind.wrap IntKind.u64 ((fw (T a.fst)).e+4)))))])))∧∀ (x:Nat×Bool×Bool),x.fst=a.fst∧x.fst<K→((2:Int)≠0∧(2:Int)≠0∧br (eqI (Int.tmod (↑x.fst:Int) 2) 0) (((0:Int)≤Int.tmod (↑x.fst:Int) 2∧Int.tmod (↑x.fst:Int) 2<(↑(2:Nat):Int))∧(Fw.Ok (fw (S0 x.fst))∧Fw.Ok (fw (T x.fst)))∧br (eqI (Int.tmod (↑x.fst:Int) 2) 0) (((0:Int)≤Int.tmod (↑x.fst:Int) 2∧Int.tmod (↑x.fst:Int) 2<(↑(2:Nat):Int))∧true=true∧true=true∧∃ (x_1:Nat×Bool×Bool),(x_1.fst=a.fst∧x_1.fst<K)∧Sg.mk [(1,Tv.sv (Sv.one (At.fn 166 [At.ptr 0 0,At.ref [At.int .u64 sq]]))),(4,Tv.sv (Sv.one (At.ptr 2 0))),(5,Tv.sv (Sv.one (At.ptr 3 0))),(6,Tv.sv (Sv.one (At.ptr 5 0))),(7,Tv.sv (Sv.one (At.ptr 8 0))),(8,iT (↑x.fst:Int))] [(0,0,At.words false (fw (P x.fst)).xs),(0,1,At.int .u64 (fw (P x.fst)).e),(2,0,At.words true []),(2,1,At.int .u64 0),(3,0,At.words true []),(3,1,At.int .u64 0),(5,0,At.words false (fw (addF (Fw.f (fw (S0 x.fst))) (Fw.f (fw (T x.fst))))).xs),(5,1,At.int .u64 (fw (addF (Fw.f (fw (S0 x.fst))) (Fw.f (fw (T x.fst))))).e),(5,2,At.words x.snd.snd (fw (S1 x.fst)).xs),(5,3,At.int .u64 (fw (S1 x.fst)).e),(8,0,At.words false (fw (T x.fst)).xs),(8,1,At.int .u64 (fw (T x.fst)).e)] 11=LKeep.at siK (siSt7 sq P T S0 S1 x_1)) (((0:Int)≤Int.tmod (↑x.fst:Int) 2∧Int.tmod (↑x.fst:Int) 2<(↑(2:Nat):Int))∧true=true∧true=true∧∃ (x_1:Nat×Bool×Bool),(x_1.fst=a.fst∧x_1.fst<K)∧Sg.mk [(1,Tv.sv (Sv.one (At.fn 166 [At.ptr 0 0,At.ref [At.int .u64 sq]]))),(4,Tv.sv (Sv.one (At.ptr 2 0))),(5,Tv.sv (Sv.one (At.ptr 3 0))),(6,Tv.sv (Sv.one (At.ptr 5 0))),(7,Tv.sv (Sv.one (At.ptr 8 0))),(8,iT (↑x.fst:Int))] [(0,0,At.words false (fw (P x.fst)).xs),(0,1,At.int .u64 (fw (P x.fst)).e),(2,0,At.words true []),(2,1,At.int .u64 0),(3,0,At.words true []),(3,1,At.int .u64 0),(5,0,At.words x.snd.fst (fw (S0 x.fst)).xs),(5,1,At.int .u64 (fw (S0 x.fst)).e),(5,2,At.words false (fw (addF (Fw.f (fw (S0 x.fst))) (Fw.f (fw (T x.fst))))).xs),(5,3,At.int .u64 (fw (addF (Fw.f (fw (S0 x.fst))) (Fw.f (fw (T x.fst))))).e),(8,0,At.words false (fw (T x.fst)).xs),(8,1,At.int .u64 (fw (T x.fst)).e)] 11=LKeep.at siK (siSt7 sq P T S0 S1 x_1))) (((0:Int)≤Int.tmod (↑x.fst:Int) 2∧Int.tmod (↑x.fst:Int) 2<(↑(2:Nat):Int))∧(Fw.Ok (fw (S1 x.fst))∧Fw.Ok (fw (T x.fst)))∧br (eqI (Int.tmod (↑x.fst:Int) 2) 0) (((0:Int)≤Int.tmod (↑x.fst:Int) 2∧Int.tmod (↑x.fst:Int) 2<(↑(2:Nat):Int))∧true=true∧true=true∧∃ (x_1:Nat×Bool×Bool),(x_1.fst=a.fst∧x_1.fst<K)∧Sg.mk [(1,Tv.sv (Sv.one (At.fn 166 [At.ptr 0 0,At.ref [At.int .u64 sq]]))),(4,Tv.sv (Sv.one (At.ptr 2 0))),(5,Tv.sv (Sv.one (At.ptr 3 0))),(6,Tv.sv (Sv.one (At.ptr 5 0))),(7,Tv.sv (Sv.one (At.ptr 8 0))),(8,iT (↑x.fst:Int))] [(0,0,At.words false (fw (P x.fst)).xs),(0,1,At.int .u64 (fw (P x.fst)).e),(2,0,At.words true []),(2,1,At.int .u64 0),(3,0,At.words true []),(3,1,At.int .u64 0),(5,0,At.words false (fw (addF (Fw.f (fw (S1 x.fst))) (Fw.f (fw (T x.fst))))).xs),(5,1,At.int .u64 (fw (addF (Fw.f (fw (S1 x.fst))) (Fw.f (fw (T x.fst))))).e),(5,2,At.words x.snd.snd (fw (S1 x.fst)).xs),(5,3,At.int .u64 (fw (S1 x.fst)).e),(8,0,At.words false (fw (T x.fst)).xs),(8,1,At.int .u64 (fw (T x.fst)).e)] 11=LKeep.at siK (siSt7 sq P T S0 S1 x_1)) (((0:Int)≤Int.tmod (↑x.fst:Int) 2∧Int.tmod (↑x.fst:Int) 2<(↑(2:Nat):Int))∧true=true∧true=true∧∃ (x_1:Nat×Bool×Bool),(x_1.fst=a.fst∧x_1.fst<K)∧Sg.mk [(1,Tv.sv (Sv.one (At.fn 166 [At.ptr 0 0,At.ref [At.int .u64 sq]]))),(4,Tv.sv (Sv.one (At.ptr 2 0))),(5,Tv.sv (Sv.one (At.ptr 3 0))),(6,Tv.sv (Sv.one (At.ptr 5 0))),(7,Tv.sv (Sv.one (At.ptr 8 0))),(8,iT (↑x.fst:Int))] [(0,0,At.words false (fw (P x.fst)).xs),(0,1,At.int .u64 (fw (P x.fst)).e),(2,0,At.words true []),(2,1,At.int .u64 0),(3,0,At.words true []),(3,1,At.int .u64 0),(5,0,At.words x.snd.fst (fw (S0 x.fst)).xs),(5,1,At.int .u64 (fw (S0 x.fst)).e),(5,2,At.words false (fw (addF (Fw.f (fw (S1 x.fst))) (Fw.f (fw (T x.fst))))).xs),(5,3,At.int .u64 (fw (addF (Fw.f (fw (S1 x.fst))) (Fw.f (fw (T x.fst))))).e),(8,0,At.words false (fw (T x.fst)).xs),(8,1,At.int .u64 (fw (T x.fst)).e)] 11=LKeep.at siK (siSt7 sq P T S0 S1 x_1))))∧∀ (x:Nat×Bool×Bool),x.fst=a.fst∧x.fst<K→inR ((↑x.fst:Int)+1)∧((fw (P x.fst)).xs=ws (val (fw (P x.fst)).xs)∧pr (Fx.mk (val (fw (P x.fst)).xs) (fw (P x.fst)).e) ((↑x.fst:Int)+1) sq)∧inR ((↑x.fst:Int)+1)∧true=true∧∃ (a':Nat×Bool×Bool),a'.fst≤K∧Sg.mk [(1,Tv.sv (Sv.one (At.fn 166 [At.ptr 0 0,At.ref [At.int .u64 sq]]))),(4,Tv.sv (Sv.one (At.ptr 2 0))),(5,Tv.sv (Sv.one (At.ptr 3 0))),(6,Tv.sv (Sv.one (At.ptr 5 0))),(7,Tv.sv (Sv.one (At.ptr 8 0))),(8,iT ((↑x.fst:Int)+1))] [(0,0,At.words false (fw (gP (Fx.mk (val (fw (P x.fst)).xs) (fw (P x.fst)).e) sq)).xs),(0,1,At.int .u64 (fw (gP (Fx.mk (val (fw (P x.fst)).xs) (fw (P x.fst)).e) sq)).e),(2,0,At.words true []),(2,1,At.int .u64 0),(3,0,At.words true []),(3,1,At.int .u64 0),(5,0,At.words x.snd.fst (fw (S0 (x.fst+1))).xs),(5,1,At.int .u64 (fw (S0 (x.fst+1))).e),(5,2,At.words x.snd.snd (fw (S1 (x.fst+1))).xs),(5,3,At.int .u64 (fw (S1 (x.fst+1))).e),(8,0,At.words false (fw (gT (Fx.mk (val (fw (P x.fst)).xs) (fw (P x.fst)).e) ((↑x.fst:Int)+1) sq)).xs),(8,1,At.int .u64 (fw (gT (Fx.mk (val (fw (P x.fst)).xs) (fw (P x.fst)).e) ((↑x.fst:Int)+1) sq)).e)] 11=LKeep.at siK (siSt sq P T S0 S1 a')∧K-a'.fst<K-a.fst):=by kernel_rfl
def wSumI(gQ:Fx→Int→Nat→Fx)(pQ:Fx→Int→Fx)(pr:Fx→Int→Prop):Spec:=fun l=>match l with
  | [.agg [.words false ps,.int .u64 pe],.agg [.words false xs,.int .u64 e],.one (.fn n [.ptr 0 0,.ref [.int .u64 sq]])]=>(match Nat.beq n 166 with
    | true=>(some (ps=ws (val ps)∧xs=ps∧e=pe∧pr ⟨val ps,pe⟩ sq),
        .tup [.agg (fwL false (fw (pQ ⟨val ps,pe⟩ sq))),.agg (fwL false (fw (gQ ⟨val ps,pe⟩ sq 0))),.agg (fwL false (fw (gQ ⟨val ps,pe⟩ sq 1)))])
    | false=>noSpec)
  | _=>noSpec
def endQ(p:Fx)(sq:Int):Fx:=pwQ p sq (kQ p sq)
def seSumI:Spec:=wSumI sumQ endQ QOk
theorem seSumI_ok:EffOk Tryz.prog 121 seSumI :=
  effOk_pat (envOk tys4_ok sSmI_ok) mixed Tryz.func121 rfl (by decide) 2 (by decide) fun l args p t _ _ e hp=>by
    unfold seSumI wSumI at e
    split at e
    · rename_i ps pe xs e0 n sq heq
      cases heq
      split at e
      rotate_left
      · cases e;exact hp.elim
      rename_i hb
      obtain rfl:=Nat.eq_of_beq_eq_true hb
      cases e
      obtain ⟨hx,hxp,hep,c1,c2,c3,c4,c5,c6⟩:ps=ws (val ps)∧xs=ps∧e0=pe∧QOk ⟨val ps,pe⟩ sq:=hp
      subst hxp hep
      unfold sumQ endQ
      generalize hK:kQ ⟨val xs,e0⟩ sq=K at *
      generalize ht:(⟨val xs,e0⟩:Fx)=t at *
      have l0:∀ k,k≤K→(ltI 0 ((ws (tmQ t sq k).a).length:Nat)=decide ((tmQ t sq k).a≠0)):=fun k hk=>len_pos (c6 k hk).1.1.1
      refine ⟨Nat.le_refl 2,siInv sq (pwQ t sq) (tmQ t sq) (SmT (tmQ t sq) 0) (SmT (tmQ t sq) 1) K,0,(sumI_vc gPI gTI prI (pwQ t sq) (tmQ t sq) (SmT (tmQ t sq) 0) (SmT (tmQ t sq) 1) K ⟨xs,e0⟩ xs e0 sq _).mpr ?_⟩
      have ew:∀ z:Fx,(fw z).e=z.e:=fun _=>rfl
      have ex:∀ z:Fx,(fw z).xs=ws z.a:=fun _=>rfl
      have w4:∀ k,k≤K→IntKind.u64.wrap ((tmQ t sq k).e+4)=(tmQ t sq k).e+4:=fun k hk=>wrap_w ⟨by have:=(c6 k hk).1.1.2.2;omega,by have:=(c6 k hk).1.1.2.2;omega⟩
      have fwt:∀ k,k≤K→(fw (tmQ t sq k)).f=tmQ t sq k:=fun k hk=>fw_f (c6 k hk).1.1.1
      have fw0:∀ k,k≤K→(fw (SmT (tmQ t sq) 0 k)).f=SmT (tmQ t sq) 0 k:=fun k hk=>fw_f (c6 k hk).2.1.1
      have fw1:∀ k,k≤K→(fw (SmT (tmQ t sq) 1 k)).f=SmT (tmQ t sq) 1 k:=fun k hk=>fw_f (c6 k hk).2.2.1
      have vP:∀ k,k<K→val (ws (pwQ t sq k).a)=(pwQ t sq k).a:=fun k hk=>val_ws (c5 k hk).1.1
      refine ⟨rfl,⟨(0,true,true),Nat.zero_le _,?_⟩,fun a ha=>⟨br_intro (fun h=>⟨rfl,a,⟨rfl,?_⟩,rfl⟩) fun h=>br_intro (fun h'=>⟨rfl,a,⟨rfl,?_⟩,rfl⟩) fun h'=>?_,fun x ⟨hxa,hx⟩=>⟨⟨by decide,by decide,?_⟩,fun y ⟨hya,hy0⟩=>?_⟩⟩⟩
      · have q2:fw t=⟨xs,e0⟩:=by rw [←ht];show (⟨ws (val xs),e0⟩:Fw)=_;rw [←hx]
        have q0:∀ b,fw (SmT (tmQ t sq) b 0)=⟨[],0⟩:=fun b=>by show (⟨ws 0,0⟩:Fw)=_;rw [ws_zero]
        have z:siSt sq (pwQ t sq) (tmQ t sq) (SmT (tmQ t sq) 0) (SmT (tmQ t sq) 1) (0,true,true)=([(1,.sv (.one (invFn sq))),(4,.sv (.one (.ptr 2 0))),(5,.sv (.one (.ptr 3 0))),(6,.sv (.one (.ptr 5 0))),(7,.sv (.one (.ptr 8 0))),(8,iT 0)],
            [(0,0,.words false xs),(0,1,.int .u64 e0),(2,0,.words true []),(2,1,.int .u64 0),(3,0,.words true []),(3,1,.int .u64 0),(5,0,.words true []),(5,1,.int .u64 0),(5,2,.words true []),(5,3,.int .u64 0),(8,0,.words false xs),(8,1,.int .u64 e0)]):=by
          unfold siSt siCells
          show (_,clX 0 0 false (fw t) ++ (_ ++ (clX 5 0 true (fw (SmT (tmQ t sq) 0 0)) ++ (clX 5 2 true (fw (SmT (tmQ t sq) 1 0)) ++ clX 8 0 false (fw t)))))=_
          rw [q0,q0,q2];rfl
        unfold LKeep.at
        rw [z];rfl
      · have h:=(l0 a.1 ha).symm.trans h
        rcases Nat.lt_or_ge a.1 K with k | k
        · exact k
        · rw [show a.1=K by omega,c3] at h;simp at h
      · have:=eqI_true.1 h';omega
      · have h:=(l0 a.1 ha).symm.trans h
        have h':=eqI_false.1 h'
        have hk:a.1=K:=by
          rcases Nat.lt_or_ge a.1 K with k | k
          · have:=c4 a.1 (by omega) k;simp at h;exact absurd h this
          · omega
        obtain ⟨o1,o2,o3⟩:=c6 K (Nat.le_refl _)
        rw [hk,ew,w4 K (Nat.le_refl _),fw0 K (Nat.le_refl _),fw1 K (Nat.le_refl _),ex,ex,val_ws o2.1,val_ws o3.1]
        have p0:=o1.1.2.2
        have p1:=o1.2
        exact ⟨⟨by omega,by omega⟩,⟨o2.w,by omega,by omega,rfl⟩,⟨by omega,by omega⟩,⟨o3.w,by omega,by omega,rfl⟩,rfl,.inl rfl⟩
      · obtain ⟨o1,o2,o3⟩:=c6 x.1 (by omega)
        have i0:(0:Int)≤Int.tmod (x.1:Int) 2∧Int.tmod (x.1:Int) 2<((2:Nat):Int):=by rw [tmod2];omega
        rw [fw0 x.1 (by omega),fw1 x.1 (by omega),fwt x.1 (by omega)]
        refine br_intro (fun h=>⟨i0,⟨o2.w,o1.1.w⟩,br_intro (fun h'=>⟨i0,rfl,rfl,(x.1,false,x.2.2),⟨hxa,hx⟩,?_⟩) fun h'=>?_⟩) fun h=>⟨i0,⟨o3.w,o1.1.w⟩,br_intro (fun h'=>?_) fun h'=>⟨i0,rfl,rfl,(x.1,x.2.1,false),⟨hxa,hx⟩,?_⟩⟩
        · have h2:=eqI_true.1 h
          rw [tmod2] at h2
          have e1:SmT (tmQ t sq) 0 (x.1+1)=addF (SmT (tmQ t sq) 0 x.1) (tmQ t sq x.1):=if_pos (by omega)
          have e2:SmT (tmQ t sq) 1 (x.1+1)=SmT (tmQ t sq) 1 x.1:=if_neg (by omega)
          unfold LKeep.at siSt7 siCells
          rw [e1,e2];rfl
        · rw [h] at h';cases h'
        · rw [h] at h';cases h'
        · have h2:=eqI_false.1 h
          rw [tmod2] at h2
          have e1:SmT (tmQ t sq) 1 (x.1+1)=addF (SmT (tmQ t sq) 1 x.1) (tmQ t sq x.1):=if_pos (by omega)
          have e2:SmT (tmQ t sq) 0 (x.1+1)=SmT (tmQ t sq) 0 x.1:=if_neg (by omega)
          unfold LKeep.at siSt7 siCells
          rw [e1,e2];rfl
      · rw [ex,ew,vP y.1 (by omega)]
        refine ⟨⟨by omega,by omega⟩,⟨rfl,c5 y.1 hy0⟩,⟨by omega,by omega⟩,rfl,(y.1+1,y.2.1,y.2.2),hy0,?_,by show K-(y.1+1)<K-a.1;omega⟩
        rfl
    · cases e;exact hp.elim
section
variable {n w:Int} (h:InvOk n w)
include h
theorem invP_le(k:Nat):0≤(invP n w k).a∧(invP n w k).a≤2^w.toNat:=by
  have a0:=(invP_in h k).a0
  have s:=invP_small h k
  have p:=two_pow_pos k
  have m:=imL (show (1:Int)≤2^k by omega) a0
  exact ⟨a0,by omega⟩
theorem fx_small{z:Fx}(a0:0≤z.a)(a1:z.a≤2*2^w.toNat)(e0:0≤z.e)(e1:z.e≤549755813888):z.Ok:=by
  have w0:=h.w0
  have w1:=h.w1
  have:blen z.a≤w.toNat+1+1:=blen_pow_le (by rw [Int.pow_succ];omega)
  exact ⟨a0,by omega,e0,by omega⟩
theorem invP_ok(k:Nat):(invP n w k).Ok:=by
  have a:=invP_le h k
  have e:=invP_e h k
  exact fx_small h a.1 (by omega) (by omega) (by omega)
theorem invT_ok(k:Nat):(invT n w k).Ok:=by
  have a:=invP_le h k
  have b:=invT_le h k
  have c:=(invT_in h k).a0
  have e:=invT_e h k
  exact fx_small h c (by omega) (by omega) (by omega)
theorem invM_ok(b:Nat){k:Nat}(hk:(k:Int)≤w+2):(SmT (invT n w) b k).Ok:=by
  have a:=smI_a h b k
  have p0:=(invP_in h k).a0
  have q:=invP_le h 0
  have e:=smI_e h b k
  have w1:=h.w1
  exact fx_small h a.1 (by omega) e.1 (by omega)
omit h in
theorem tmQ_fun(n w:Int):tmQ (shortF ⟨2^w.toNat,0⟩ n) (n*n)=invT n w:=funext fun k=>tmQ_inv n w k
omit h in
theorem kQ_inv(n w:Int):kQ (shortF ⟨2^w.toNat,0⟩ n) (n*n)=invK n w:=by
  unfold kQ invK
  rw [tmQ_fun]
theorem qok_inv:QOk (shortF ⟨2^w.toNat,0⟩ n) (n*n):=by
  obtain ⟨k1,k2,k3,k4⟩:=invK_spec h
  have w1:=h.w1
  have n0:=h.n0
  have n1:=h.n1
  have sq:=sq_ge n0
  have sq1:n*n≤10000*10000:=Int.mul_le_mul n1 n1 (by omega) (by omega)
  unfold QOk
  rw [kQ_inv,tmQ_fun]
  refine ⟨k1,by omega,k3,k4,fun k hk=>?_,fun k hk=>⟨⟨invT_ok h k,by rw [invT_e h];omega⟩,invM_ok h 0 (by omega),invM_ok h 1 (by omega)⟩⟩
  rw [pwQ_inv]
  exact ⟨invP_ok h k,by rw [invP_e h];omega,by omega,by omega,by omega,by omega⟩
omit h in
theorem sumQ_inv(n w:Int)(b:Nat):sumQ (shortF ⟨2^w.toNat,0⟩ n) (n*n) b=invR n w b:=by
  unfold sumQ invR
  rw [kQ_inv,tmQ_fun]
theorem invR_ok{b:Nat}(hb:b≤1):(invR n w b).Ok:=by
  have r:=invR_bd h
  have q:=invP_le h 0
  have w1:=h.w1
  rcases (show b=0∨b=1 by omega) with rfl | rfl
  · exact fx_small h (by omega) (by omega) (by omega) (by omega)
  · exact fx_small h (by omega) (by omega) (by omega) (by omega)
end
def sInv(gQ:Fx→Int→Nat→Fx)(pQ:Fx→Int→Fx)(pr:Fx→Int→Prop):List (FuncId×Spec):=[(122,seOne),(125,seShort),(151,seAdd),(127,seSub),(119,lOf),(146,lMul),
  (121+effK,wSumI gQ pQ pr)]
theorem cInverse_vc(n times w:Int)(turned:Bool)(gQ:Fx→Int→Nat→Fx)(pQ:Fx→Int→Fx)(pr:Fx→Int→Prop)(Q:Tv→Prop):execF ⟨tys4,sInv gQ pQ pr⟩ (fun _=>none) 0 Tryz.f155 [.one (.int .u64 n),.one (.int .u64 times),.one (.bool turned),.one (.int .i64 w)] Q=(((0:Int)≤w∧w≤16777216)∧((0:Int)≤(fw (Fx.mk ((2:Int)^Int.toNat w) 0)).e∧(fw (Fx.mk ((2:Int)^Int.toNat w) 0)).e≤1099511627776∧(0:Int)<n∧n<18446744073709551616)∧((fw (shortF (Fw.f (fw (Fx.mk ((2:Int)^Int.toNat w) 0))) n)).xs=ws (val (fw (shortF (Fw.f (fw (Fx.mk ((2:Int)^Int.toNat w) 0))) n)).xs)∧(fw (shortF (Fw.f (fw (Fx.mk ((2:Int)^Int.toNat w) 0))) n)).xs=(fw (shortF (Fw.f (fw (Fx.mk ((2:Int)^Int.toNat w) 0))) n)).xs∧(fw (shortF (Fw.f (fw (Fx.mk ((2:Int)^Int.toNat w) 0))) n)).e=(fw (shortF (Fw.f (fw (Fx.mk ((2:Int)^Int.toNat w) 0))) n)).e∧pr (Fx.mk (val (fw (shortF (Fw.f (fw (Fx.mk ((2:Int)^Int.toNat w) 0))) n)).xs) (fw (shortF (Fw.f (fw (Fx.mk ((2:Int)^Int.toNat w) 0))) n)).e) (IntKind.wrap IntKind.u64 (n*n)))∧(Fw.Ok (fw (gQ (Fx.mk (val (fw (shortF (Fw.f (fw (Fx.mk ((2:Int)^Int.toNat w) 0))) n)).xs) (fw (shortF (Fw.f (fw (Fx.mk ((2:Int)^Int.toNat w) 0))) n)).e) (IntKind.wrap IntKind.u64 (n*n)) 0))∧Fw.Ok (fw (gQ (Fx.mk (val (fw (shortF (Fw.f (fw (Fx.mk ((2:Int)^Int.toNat w) 0))) n)).xs) (fw (shortF (Fw.f (fw (Fx.mk ((2:Int)^Int.toNat w) 0))) n)).e) (IntKind.wrap IntKind.u64 (n*n)) 1)))∧br turned ((Fw.Ok (fw (gQ (Fx.mk (val (fw (shortF (Fw.f (fw (Fx.mk ((2:Int)^Int.toNat w) 0))) n)).xs) (fw (shortF (Fw.f (fw (Fx.mk ((2:Int)^Int.toNat w) 0))) n)).e) (IntKind.wrap IntKind.u64 (n*n)) 0))∧Fw.Ok (fw (gQ (Fx.mk (val (fw (shortF (Fw.f (fw (Fx.mk ((2:Int)^Int.toNat w) 0))) n)).xs) (fw (shortF (Fw.f (fw (Fx.mk ((2:Int)^Int.toNat w) 0))) n)).e) (IntKind.wrap IntKind.u64 (n*n)) 1))∧(Fw.f (fw (gQ (Fx.mk (val (fw (shortF (Fw.f (fw (Fx.mk ((2:Int)^Int.toNat w) 0))) n)).xs) (fw (shortF (Fw.f (fw (Fx.mk ((2:Int)^Int.toNat w) 0))) n)).e) (IntKind.wrap IntKind.u64 (n*n)) 1))).a+(Fw.f (fw (gQ (Fx.mk (val (fw (shortF (Fw.f (fw (Fx.mk ((2:Int)^Int.toNat w) 0))) n)).xs) (fw (shortF (Fw.f (fw (Fx.mk ((2:Int)^Int.toNat w) 0))) n)).e) (IntKind.wrap IntKind.u64 (n*n)) 1))).e≤(Fw.f (fw (gQ (Fx.mk (val (fw (shortF (Fw.f (fw (Fx.mk ((2:Int)^Int.toNat w) 0))) n)).xs) (fw (shortF (Fw.f (fw (Fx.mk ((2:Int)^Int.toNat w) 0))) n)).e) (IntKind.wrap IntKind.u64 (n*n)) 0))).a)∧Word times∧List.length (ws (val (fw (subF (Fw.f (fw (gQ (Fx.mk (val (fw (shortF (Fw.f (fw (Fx.mk ((2:Int)^Int.toNat w) 0))) n)).xs) (fw (shortF (Fw.f (fw (Fx.mk ((2:Int)^Int.toNat w) 0))) n)).e) (IntKind.wrap IntKind.u64 (n*n)) 0))) (Fw.f (fw (gQ (Fx.mk (val (fw (shortF (Fw.f (fw (Fx.mk ((2:Int)^Int.toNat w) 0))) n)).xs) (fw (shortF (Fw.f (fw (Fx.mk ((2:Int)^Int.toNat w) 0))) n)).e) (IntKind.wrap IntKind.u64 (n*n)) 1))))).xs))+List.length (ws (val (ws times)))≤17592186044415∧true=true∧Q (Tv.sv (Sv.agg [At.words true (ws (val (fw (subF (Fw.f (fw (gQ (Fx.mk (val (fw (shortF (Fw.f (fw (Fx.mk ((2:Int)^Int.toNat w) 0))) n)).xs) (fw (shortF (Fw.f (fw (Fx.mk ((2:Int)^Int.toNat w) 0))) n)).e) (IntKind.wrap IntKind.u64 (n*n)) 0))) (Fw.f (fw (gQ (Fx.mk (val (fw (shortF (Fw.f (fw (Fx.mk ((2:Int)^Int.toNat w) 0))) n)).xs) (fw (shortF (Fw.f (fw (Fx.mk ((2:Int)^Int.toNat w) 0))) n)).e) (IntKind.wrap IntKind.u64 (n*n)) 1))))).xs*val (ws times))),At.int .u64 (IntKind.wrap IntKind.u64 ((fw (subF (Fw.f (fw (gQ (Fx.mk (val (fw (shortF (Fw.f (fw (Fx.mk ((2:Int)^Int.toNat w) 0))) n)).xs) (fw (shortF (Fw.f (fw (Fx.mk ((2:Int)^Int.toNat w) 0))) n)).e) (IntKind.wrap IntKind.u64 (n*n)) 0))) (Fw.f (fw (gQ (Fx.mk (val (fw (shortF (Fw.f (fw (Fx.mk ((2:Int)^Int.toNat w) 0))) n)).xs) (fw (shortF (Fw.f (fw (Fx.mk ((2:Int)^Int.toNat w) 0))) n)).e) (IntKind.wrap IntKind.u64 (n*n)) 1))))).e*times))]))) (Word times∧List.length (ws (val (fw (addF (Fw.f (fw (gQ (Fx.mk (val (fw (shortF (Fw.f (fw (Fx.mk ((2:Int)^Int.toNat w) 0))) n)).xs) (fw (shortF (Fw.f (fw (Fx.mk ((2:Int)^Int.toNat w) 0))) n)).e) (IntKind.wrap IntKind.u64 (n*n)) 0))) (Fw.f (fw (gQ (Fx.mk (val (fw (shortF (Fw.f (fw (Fx.mk ((2:Int)^Int.toNat w) 0))) n)).xs) (fw (shortF (Fw.f (fw (Fx.mk ((2:Int)^Int.toNat w) 0))) n)).e) (IntKind.wrap IntKind.u64 (n*n)) 1))))).xs))+List.length (ws (val (ws times)))≤17592186044415∧true=true∧Q (Tv.sv (Sv.agg [At.words true (ws (val (fw (addF (Fw.f (fw (gQ (Fx.mk (val (fw (shortF (Fw.f (fw (Fx.mk ((2:Int)^Int.toNat w) 0))) n)).xs) (fw (shortF (Fw.f (fw (Fx.mk ((2:Int)^Int.toNat w) 0))) n)).e) (IntKind.wrap IntKind.u64 (n*n)) 0))) (Fw.f (fw (gQ (Fx.mk (val (fw (shortF (Fw.f (fw (Fx.mk ((2:Int)^Int.toNat w) 0))) n)).xs) (fw (shortF (Fw.f (fw (Fx.mk ((2:Int)^Int.toNat w) 0))) n)).e) (IntKind.wrap IntKind.u64 (n*n)) 1))))).xs*val (ws times))),At.int .u64 (IntKind.wrap IntKind.u64 ((fw (addF (Fw.f (fw (gQ (Fx.mk (val (fw (shortF (Fw.f (fw (Fx.mk ((2:Int)^Int.toNat w) 0))) n)).xs) (fw (shortF (Fw.f (fw (Fx.mk ((2:Int)^Int.toNat w) 0))) n)).e) (IntKind.wrap IntKind.u64 (n*n)) 0))) (Fw.f (fw (gQ (Fx.mk (val (fw (shortF (Fw.f (fw (Fx.mk ((2:Int)^Int.toNat w) 0))) n)).xs) (fw (shortF (Fw.f (fw (Fx.mk ((2:Int)^Int.toNat w) 0))) n)).e) (IntKind.wrap IntKind.u64 (n*n)) 1))))).e*times))])))):=by kernel_rfl
theorem sInv_ok:SpecsOk Tryz.prog (sInv sumQ endQ QOk):=⟨seOne_ok,seShort_ok,seAdd_ok,seSub_ok,lOf_ok,lMul_ok,seSumI_ok,trivial⟩
theorem InvOk.gap{n w:Int}(h:InvOk n w):(invR n w 1).a+(invR n w 1).e≤(invR n w 0).a∧0≤(invS n w true).a∧(invS n w true).a≤2*2^w.toNat∧(invS n w true).e≤4*w+16∧0≤(invS n w true).e∧0≤(invS n w false).a∧(invS n w false).a≤3*2^w.toNat∧(invS n w false).e≤4*w+16∧0≤(invS n w false).e:=by
  have r:=invR_bd h
  have b:=h.big
  have w0:=h.w0
  have n0:=h.n0
  have q:5*(invP n w 0).a≤2^w.toNat:=by
    have k:2^w.toNat/n≤2^w.toNat/5:=div_anti (by have:=two_pow_pos w.toNat;omega) (by omega) n0
    show 5*(2^w.toNat/n)≤2^w.toNat
    omega
  have g:(invR n w 1).a+(invR n w 1).e≤(invR n w 0).a:=by omega
  have e1:invS n w true=subF (invR n w 0) (invR n w 1):=if_pos rfl
  have e2:invS n w false=addF (invR n w 0) (invR n w 1):=if_neg (by simp)
  rw [e1,e2]
  show _∧0≤(invR n w 0).a-((invR n w 1).a+(invR n w 1).e)∧(invR n w 0).a-((invR n w 1).a+(invR n w 1).e)≤_∧(invR n w 0).e+(invR n w 1).e≤_∧0≤(invR n w 0).e+(invR n w 1).e∧0≤(invR n w 0).a+(invR n w 1).a∧(invR n w 0).a+(invR n w 1).a≤_∧(invR n w 0).e+(invR n w 1).e≤_∧0≤(invR n w 0).e+(invR n w 1).e
  omega
def cInverse:Spec:=specK [.i .u64,.i .u64,.b,.i .i64] fun (n:Int) (times:Int) (turned:Bool) (w:Int)=>(some (InvOk n w∧1≤times∧times≤64),fxT (timesF (invS n w turned) times))
theorem cInverse_ok:SpecOk Tryz.prog 155 cInverse :=
  specKW_ok (envOk tys4_ok sInv_ok) mixed Tryz.func155 rfl (by decide) (by decide) fun (n:Int) _ (times:Int) _ (turned:Bool) _ (w:Int) _ hp=>⟨fun _=>none,0,by
    obtain ⟨h,t0,t1⟩:InvOk n w∧1≤times∧times≤64:=hp
    have w0:=h.w0
    have w1:=h.w1
    have n0:=h.n0
    have n1:=h.n1
    have sq1:n*n≤10000*10000:=Int.mul_le_mul n1 n1 (by omega) (by omega)
    have sq0:=sq_ge n0
    show execF _ _ _ _ _ (fun t=>t=fxT (timesF (invS n w turned) times)∨fgT t=fxT (timesF (invS n w turned) times))
    refine (cInverse_vc n times w turned sumQ endQ QOk _).mpr ?_
    have p:=two_pow_pos w.toNat
    have x1:(fw (⟨2^w.toNat,0⟩:Fx)).f=⟨2^w.toNat,0⟩:=fw_f (by show (0:Int)≤2^w.toNat;omega)
    have x2:IntKind.u64.wrap (n*n)=n*n:=wrap_w ⟨by omega,by omega⟩
    have oP:=invP_ok h 0
    have x3:(⟨val (fw (shortF ⟨2^w.toNat,0⟩ n)).xs,(fw (shortF ⟨2^w.toNat,0⟩ n)).e⟩:Fx)=shortF ⟨2^w.toNat,0⟩ n:=fw_f (z:=shortF ⟨2^w.toNat,0⟩ n) oP.1
    have x4:∀ b,sumQ (shortF ⟨2^w.toNat,0⟩ n) (n*n) b=invR n w b:=fun b=>sumQ_inv n w b
    rw [x1,x2,x3,x4,x4]
    have o0:=invR_ok h (b:=0) (by omega)
    have o1:=invR_ok h (b:=1) (by omega)
    have f0:(fw (invR n w 0)).f=invR n w 0:=fw_f o0.1
    have f1:(fw (invR n w 1)).f=invR n w 1:=fw_f o1.1
    rw [f0,f1]
    have g:=h.gap
    have wt:Word times:=⟨by omega,by omega⟩
    have fin:∀ z:Fx,0≤z.a→z.a≤3*2^w.toNat→0≤z.e→z.e≤4*w+16→List.length (ws (val (fw z).xs))+List.length (ws (val (ws times)))≤17592186044415 ∧
        Tv.sv (Sv.agg [At.words true (ws (val (fw z).xs*val (ws times))),At.int .u64 (IntKind.wrap IntKind.u64 ((fw z).e*times))]) = .sv (.agg (fwL true (fw (timesF z times)))):=fun z a0 a1 e0 e1=>by
      have v1:val (fw z).xs=z.a:=val_ws a0
      have v2:val (ws times)=times:=val_ws (by omega)
      have m0:=Int.mul_nonneg e0 (show 0≤times by omega)
      have m1:=Int.mul_le_mul e1 t1 (by omega) (by omega)
      have v3:IntKind.u64.wrap ((fw z).e*times)=z.e*times:=wrap_w ⟨m0,by show z.e*times<_;omega⟩
      have b1:blen z.a≤w.toNat+2+1:=blen_pow_le (by rw [show w.toNat+2=w.toNat+1+1 by omega,Int.pow_succ,Int.pow_succ];omega)
      have l1:=ws_blen (k:=1073741824) a0 (by omega)
      have l2:=ws_blen (k:=1073741824) (n:=times) (by omega) (by have:=blen_pow_le (n:=times) (k:=6) (by omega);omega)
      rw [v1,v2,v3]
      exact ⟨by omega,rfl⟩
    refine ⟨⟨by omega,by omega⟩,⟨Int.le_refl _,by show (0:Int)≤_;omega,by omega,by omega⟩,⟨?_,rfl,rfl,qok_inv h⟩,⟨o0.w,o1.w⟩,br_intro (fun ht=>?_) fun ht=>?_⟩
    · show ws _=ws (val (ws _))
      exact congrArg ws (val_ws oP.1).symm
    · obtain ⟨l,e⟩:=fin (invS n w true) g.2.1 (by omega) g.2.2.2.2.1 g.2.2.2.1
      have es:invS n w true=subF (invR n w 0) (invR n w 1):=if_pos rfl
      rw [es] at l e
      refine ⟨⟨o0.w,o1.w,g.1⟩,wt,l,rfl,.inr ?_⟩
      rw [e,ht,es];rfl
    · obtain ⟨l,e⟩:=fin (invS n w false) g.2.2.2.2.2.1 g.2.2.2.2.2.2.1 g.2.2.2.2.2.2.2.2 g.2.2.2.2.2.2.2.1
      have es:invS n w false=addF (invR n w 0) (invR n w 1):=if_neg (by simp)
      rw [es] at l e
      refine ⟨wt,l,rfl,.inr ?_⟩
      rw [e,ht,es];rfl⟩
def sPi(fI:Int→Int→Bool→Int→Fx)(pr:Int→Int→Int→Prop):List (FuncId×Spec):=[(155,specK [.i .u64,.i .u64,.b,.i .i64] fun (n:Int) (times:Int) (turned:Bool) (w:Int)=>(some (pr n times w),fxT (fI n times turned w))),(127,seSub)]
theorem cPi_vc(w:Int)(fI:Int→Int→Bool→Int→Fx)(pr:Int→Int→Int→Prop)(Q:Tv→Prop):execF ⟨tys4,sPi fI pr⟩ (fun _=>none) 0 Tryz.f134 [.one (.int .i64 w)] Q=(pr 5 16 w∧pr 239 4 w∧(Fw.Ok (fw (fI 5 16 true w))∧Fw.Ok (fw (fI 239 4 true w))∧(Fw.f (fw (fI 239 4 true w))).a+(Fw.f (fw (fI 239 4 true w))).e≤(Fw.f (fw (fI 5 16 true w))).a)∧Q (Tv.sv (Sv.agg (fwL false (fw (subF (Fw.f (fw (fI 5 16 true w))) (Fw.f (fw (fI 239 4 true w))))))))):=by kernel_rfl
theorem pi_gap{w:Int}(w0:32≤w)(w1:w≤65536):(timesF (invS 239 w true) 4).a+(timesF (invS 239 w true) 4).e≤(timesF (invS 5 w true) 16).a:=by
  have h5:InvOk 5 w:=⟨by omega,by omega,w0,w1⟩
  have h2:InvOk 239 w:=⟨by omega,by omega,w0,w1⟩
  have r5:=invR_bd h5
  have r2:=invR_bd h2
  have b5:=h5.big
  have b2:=h2.big
  have q5:(invP 5 w 0).a=2^w.toNat/5:=rfl
  have q2:(invP 239 w 0).a=2^w.toNat/239:=rfl
  have e5:invS 5 w true=subF (invR 5 w 0) (invR 5 w 1):=if_pos rfl
  have e2:invS 239 w true=subF (invR 239 w 0) (invR 239 w 1):=if_pos rfl
  rw [e5,e2]
  show ((invR 239 w 0).a-((invR 239 w 1).a+(invR 239 w 1).e))*4+((invR 239 w 0).e+(invR 239 w 1).e)*4≤((invR 5 w 0).a-((invR 5 w 1).a+(invR 5 w 1).e))*16
  have k:20*(2^w.toNat/239)≤(2^w.toNat/5:Int):=by omega
  omega
theorem timesF_ok{n w t:Int}(h:InvOk n w)(t0:0≤t)(t1:t≤64):(timesF (invS n w true) t).Ok:=by
  have g:=h.gap
  have w0:=h.w0
  have w1:=h.w1
  have p:=two_pow_pos w.toNat
  have a0:=Int.mul_nonneg g.2.1 t0
  have a1:=Int.mul_le_mul g.2.2.1 t1 t0 (by omega)
  have e0:=Int.mul_nonneg g.2.2.2.2.1 t0
  have e1:=Int.mul_le_mul g.2.2.2.1 t1 t0 (by omega)
  have b:blen ((invS n w true).a*t)≤w.toNat+7+1:=blen_pow_le (by
    rw [show (2:Int)^(w.toNat+7)=2^w.toNat*128 by rw [Int.pow_add];rfl];omega)
  exact ⟨a0,by show blen ((invS n w true).a*t)≤_;omega,e0,by show (invS n w true).e*t≤_;omega⟩
def cPi:Spec:=specK [.i .i64] fun (w:Int)=>(some (32≤w∧w≤65536),fxT (piF w))
theorem sPi_ok:SpecsOk Tryz.prog (sPi (fun n times turned w=>timesF (invS n w turned) times) (fun n times w=>InvOk n w∧1≤times∧times≤64)):=⟨cInverse_ok,seSub_ok,trivial⟩
theorem cPi_ok:SpecOk Tryz.prog 134 cPi :=
  specKW_ok (envOk tys4_ok sPi_ok) mixed Tryz.func134 rfl (by decide) (by decide) fun (w:Int) _ hp=>⟨fun _=>none,0,by
    obtain ⟨w0,w1⟩:32≤w∧w≤65536:=hp
    have h5:InvOk 5 w:=⟨by omega,by omega,w0,w1⟩
    have h2:InvOk 239 w:=⟨by omega,by omega,w0,w1⟩
    have o5:=timesF_ok h5 (t:=16) (by omega) (by omega)
    have o2:=timesF_ok h2 (t:=4) (by omega) (by omega)
    show execF _ _ _ _ _ (fun t=>t=fxT (piF w)∨fgT t=fxT (piF w))
    refine (cPi_vc w (fun n times turned w=>timesF (invS n w turned) times) (fun n times w=>InvOk n w∧1≤times∧times≤64) _).mpr ?_
    have f5:(fw (timesF (invS 5 w true) 16)).f=timesF (invS 5 w true) 16:=fw_f o5.1
    have f2:(fw (timesF (invS 239 w true) 4)).f=timesF (invS 239 w true) 4:=fw_f o2.1
    rw [f5,f2]
    exact ⟨⟨h5,by omega,by omega⟩,⟨h2,by omega,by omega⟩,⟨o5.w,o2.w,pi_gap w0 w1⟩,.inl rfl⟩⟩
theorem at5_enc:Enc (sgnS true (atT 5)) (197395/1000000) (1974/10000):=by
  refine (altG_enc (r:=atT 5) (atT_nonneg (by omega)) (atT_fall (by omega)) (K:=3) (q:=12/11*atT 5 3) Rat.le_refl Rat.le_refl Rat.le_refl Rat.le_refl (by grind)).wide ?_ ?_<;>decide +kernel
theorem at239_enc:Enc (sgnS true (atT 239)) (4184/1000000) (41842/10000000):=by
  refine (altG_enc (r:=atT 239) (atT_nonneg (by omega)) (atT_fall (by omega)) (K:=2) (q:=12/11*atT 239 2) Rat.le_refl Rat.le_refl Rat.le_refl Rat.le_refl (by grind)).wide ?_ ?_<;>decide +kernel
theorem piS_enc:Enc piS (31415/10000) (31417/10000) :=
  ((at5_enc.scale (c:=16) (by decide)).add ((at239_enc.scale (c:=4) (by decide)).neg)).wide (by decide +kernel) (by decide +kernel)
theorem piF_e{w:Int}(w0:32≤w)(w1:w≤65536):0≤(piF w).a∧0≤(piF w).e∧(piF w).e≤80*w+320∧(piF w).a≤32*2^w.toNat:=by
  have h5:InvOk 5 w:=⟨by omega,by omega,w0,w1⟩
  have h2:InvOk 239 w:=⟨by omega,by omega,w0,w1⟩
  have g5:=h5.gap
  have g2:=h2.gap
  have gp:=pi_gap w0 w1
  have e2:(piF w).e=(invS 5 w true).e*16+(invS 239 w true).e*4:=rfl
  have e1:(piF w).a=(invS 5 w true).a*16-((invS 239 w true).a*4+(invS 239 w true).e*4):=rfl
  have e3:(timesF (invS 239 w true) 4).a+(timesF (invS 239 w true) 4).e=(invS 239 w true).a*4+(invS 239 w true).e*4:=rfl
  have e4:(timesF (invS 5 w true) 16).a=(invS 5 w true).a*16:=rfl
  omega
theorem refS_bd{n w:Int}(h:InvOk n w):0≤(refS n w).a∧(refS n w).a≤2*(refP n w 0).a∧0≤(refS n w).e∧(refS n w).e≤4*w+16∧(refS n w).a+(refS n w).e≤2*(refP n w 0).a+4*w+16∧(refP n w 0).a-4*w-16≤(refS n w).a+2*(refP n w 1).a:=by
  obtain ⟨k2,k3,k4⟩:=refK_spec h
  have a0:=smR_a h 0 (refK n w+1)
  have a1:=smR_a h 1 (refK n w+1)
  have p0:=(refP_in h (refK n w+1)).a0
  have e0:=smR_e h 0 (refK n w+1)
  have e1:=smR_e h 1 (refK n w+1)
  have ev:=smR_even h (refK n w)
  have od:=smR_odd h (refK n w)
  have hf:25*(refP n w 1).a≤(refP n w 0).a:=refP_half h 0
  have b1:=(refP_in h 1).a0
  have big:=h.big
  have w0:=h.w0
  have ep:(invP n w 0).a=(refP n w 0).a:=rfl
  have d1:(refS n w).a=(SmT (refT n w) 0 (refK n w+1)).a-((SmT (refT n w) 1 (refK n w+1)).a+((SmT (refT n w) 1 (refK n w+1)).e+4)):=rfl
  have d2:(refS n w).e=((SmT (refT n w) 0 (refK n w+1)).e+4)+((SmT (refT n w) 1 (refK n w+1)).e+4):=rfl
  omega
theorem piR_e{w:Int}(w0:32≤w)(w1:w≤65536):0≤(piR w).a∧0≤(piR w).e∧(piR w).e≤80*w+320∧(piR w).a≤32*2^w.toNat:=by
  have h5:InvOk 5 w:=⟨by omega,by omega,w0,w1⟩
  have h2:InvOk 239 w:=⟨by omega,by omega,w0,w1⟩
  have g5:=refS_bd h5
  have g2:=refS_bd h2
  have big5:=h5.big
  have hf5:25*(refP 5 w 1).a≤(refP 5 w 0).a:=refP_half h5 0
  have q5:(refP 5 w 0).a=2^w.toNat/5:=rfl
  have q2:(refP 239 w 0).a=2^w.toNat/239:=rfl
  have ep:(invP 5 w 0).a=(refP 5 w 0).a:=rfl
  have k:20*(2^w.toNat/239)≤(2^w.toNat/5:Int):=by omega
  have e2:(piR w).e=(refS 5 w).e*16+(refS 239 w).e*4:=rfl
  have e1:(piR w).a=(refS 5 w).a*16-((refS 239 w).a*4+(refS 239 w).e*4):=rfl
  omega
structure PiIv (d:Rat) (v:Vx):Prop where
  f:OneF v.lo∧OneF v.hi
  enc:Enc piS v.lo.rv v.hi.rv
  lo:3≤v.lo.rv
  hi:v.hi.rv≤4
  nar:v.hi.rv≤v.lo.rv+d
theorem PiIv.p{d:Rat}{v:Vx}(h:PiIv d v):v.P:=⟨h.f.1.p,h.f.2.p⟩
theorem PiIv.le{d:Rat}{v:Vx}(h:PiIv d v):v.lo.rv≤v.hi.rv:=h.enc.self
theorem ivF_rv{z:Fx}{w:Int}(a0:0≤z.a)(e0:0≤z.e):(ivF z w).lo.rv=(z.a:Rat)*p2 (-w)∧(ivF z w).hi.rv=((z.a+z.e:Int):Rat)*p2 (-w):=by
  unfold ivF
  exact ⟨by rw [rv_mkD a0];rfl,by rw [rv_mkD (by omega)];rfl⟩
theorem pow_e{w:Int}(w0:32≤w)(w1:w≤65536){e:Int}(h:e≤80*w+320):(e:Rat)*p2 (-w)≤p2 (23-w):=by
  have:(e:Rat)≤((2^23:Int):Rat):=cast_le.2 (by omega)
  have h2:=rmR this (rlL (p2_pos (-w)))
  have e23:((2^23:Int):Rat)=p2 23:=(p2_toNat (n:=23) (by omega)).symm
  rw [e23,←p2_add] at h2
  rwa [show (23:Int)-w=23 + -w by omega]
theorem pi_iv{w:Int}{z:Fx}(w0:32≤w)(w1:w≤65536)(h:EncF w z piS)(a0:0≤z.a)(e0:0≤z.e)(e1:z.e≤80*w+320):PiIv (p2 (23-w)) (ivF z w):=by
  obtain ⟨r1,r2⟩:=ivF_rv (w:=w) a0 e0
  have hp:=p2_le (show 23-w≤-9 by omega)
  have hn:=pow_e w0 w1 e1
  have hm:=h.meets piS_enc
  have hm2:=piS_enc.meets h
  have e9:p2 (-9)=1/512:=by decide +kernel
  have es:((z.a+z.e:Int):Rat)*p2 (-w)=(z.a:Rat)*p2 (-w)+(z.e:Rat)*p2 (-w):=by rw [rcA,Rat.add_mul]
  rw [es] at hm2 r2
  rw [e9] at hp
  have d1:(31415:Rat)/10000-1/512≥3:=by decide +kernel
  have d2:(31417:Rat)/10000+1/512≤4:=by decide +kernel
  refine ⟨⟨mkD_f a0,mkD_f (by omega)⟩,?_,?_,?_,?_⟩
  · rw [r1,r2,←es];exact h
  all_goals
    generalize (31415:Rat)/10000=c1 at *
    generalize (31417:Rat)/10000=c2 at *
    generalize (z.a:Rat)*p2 (-w)=A at *
    generalize (z.e:Rat)*p2 (-w)=B at *
    generalize p2 (23-w)=P at *
  · rw [r1];grind
  · rw [r2];grind
  · rw [r1,r2];grind
theorem PiIv.trim{d:Rat}{v:Vx}{p:Int}(h:PiIv d v)(hp2:2≤p):PiIv (d+p2 (4-p)) (trimV v p):=by
  have hp:1≤p:=by omega
  have b1:=(cutD_best (d:=v.lo) (p:=p) h.p.1 hp).1
  have b2:=(cutD_best (d:=v.hi) (p:=p) h.p.2 hp).2
  have l1:=h.lo
  have l2:=h.hi
  have l3:=h.nar
  have le:=h.le
  have hr1:Rp p ((4:Int):Rat):=⟨1,2,by decide +kernel,by
    have:=p2_le (show (1:Int)≤p by omega)
    rw [p2_one] at this
    have e1:((1:Int):Rat)=1:=rfl
    rw [e1];grind,by
    have:=p2_pos p
    have e1:((1:Int):Rat)=1:=rfl
    rw [e1];grind⟩
  have e4:((4:Int):Rat)=4:=rfl
  rw [e4] at hr1
  have r1:=b1.rel hp (by grind)
  have r2:=b2.rel hp (by grind)
  have ee:eps p=p2 (1-p):=rfl
  have e8:p2 (4-p)=8*p2 (1-p):=by
    rw [show (4:Int)-p=3+(1-p) by omega,p2_add]
    have:p2 3=8:=by decide +kernel
    rw [this]
  have ep:=eps_pos p
  rw [ee] at r1 r2 ep
  have m1:p2 (1-p)*v.lo.rv≤p2 (1-p)*4:=rmL (by grind) (rlL ep)
  have m2:p2 (1-p)*v.hi.rv≤p2 (1-p)*4:=rmL (by grind) (rlL ep)
  refine ⟨⟨cutD_f h.p.1,cutD_f h.p.2⟩,h.enc.wide b1.2.1 b2.2.1,?_,b2.2.2 4 hr1 l2,?_⟩
  · refine b1.2.2 3 ⟨3,0,by rw [p2_zero];decide +kernel,?_,?_⟩ l1
    · have:=p2_le hp2
      have e2:p2 2=4:=by decide +kernel
      have e3:((3:Int):Rat)=3:=rfl
      rw [e3];grind
    · have:=p2_pos p
      have e3:((3:Int):Rat)=3:=rfl
      rw [e3];grind
  · show (cutD v.hi p true).rv≤(cutD v.lo p false).rv+(d+p2 (4-p))
    rw [e8];grind
theorem PiIv.mono{d d':Rat}{v:Vx}(h:PiIv d v)(k:d≤d'):PiIv d' v:=⟨h.f,h.enc,h.lo,h.hi,by have:=h.nar;grind⟩
theorem fits_34{d:Dx}{p:Int}(h:OneF d)(hr:Rp p d.rv)(h3:3≤d.rv)(h4:d.rv≤4)(hp:p≤32768):d.fitsB=true:=by
  have e:=(rv_amt h.p).1 (by grind)
  have e1:p2 1=2:=p2_one
  have e2:p2 2=4:=by decide +kernel
  exact fits_rp h (A:=1) (B:=2) hr hp (fun _=>by rw [←e];grind) (by rw [←e];grind) (by omega) (by omega)
theorem PiIv.right{d:Rat}{v:Vx}(h:PiIv d v){p:Int}(r1:Rp p v.lo.rv)(r2:Rp p v.hi.rv)(hp:p≤32768):rightV v=true:=by
  have le:=h.le
  have f1:=fits_34 h.f.1 r1 h.lo (by have:=h.hi;grind) hp
  have f2:=fits_34 h.f.2 r2 (by have:=h.lo;grind) h.hi hp
  unfold rightV
  rw [f1,f2,decide_eq_true (cmpD_le.2 le)];rfl
def encPi(p:Int):Vx:=ivF (piF (p+64)) (p+64)
theorem encPi_iv{p:Int}(p0:8≤p)(p1:p≤65000):PiIv (p2 (-41-p)) (encPi p):=by
  obtain ⟨a0,e0,e1,_⟩:=piF_e (w:=p+64) (by omega) (by omega)
  have:=pi_iv (w:=p+64) (by omega) (by omega) (piF_enc (by omega) (by omega)) a0 e0 e1
  rwa [show (23:Int)-(p+64) = -41-p by omega] at this
theorem ivF_rp{z:Fx}{w p:Int}(a0:0≤z.a)(e0:0≤z.e)(h:(z.a+z.e:Int)<2^p.toNat)(hp:0≤p):Rp p (ivF z w).lo.rv∧Rp p (ivF z w).hi.rv:=by
  obtain ⟨r1,r2⟩:=ivF_rv (w:=w) a0 e0
  have q:=p2_pos p
  have c:∀ s:Int,0≤s→s<2^p.toNat→(s:Rat)<p2 p∧-(p2 p)<(s:Rat):=fun s s0 s1=>by
    have k0:=cast_le.2 s0
    have e0:((0:Int):Rat)=0:=rfl
    rw [e0] at k0
    rw [p2_toNat hp]
    have q':0<((2^p.toNat:Int):Rat):=by rw [←p2_toNat hp];exact q
    exact ⟨cast_lt.2 s1,by grind⟩
  exact ⟨⟨_,_,r1,c _ a0 (by omega)⟩,⟨_,_,r2,c _ (by omega) h⟩⟩
theorem encPi_right{p:Int}(p0:8≤p)(p1:p≤16384):rightV (encPi p)=true:=by
  obtain ⟨a0,e0,e1,a1⟩:=piF_e (w:=p+64) (by omega) (by omega)
  have hb:(piF (p+64)).a+(piF (p+64)).e<2^(p+64+6).toNat:=by
    obtain ⟨k,hk⟩:∃ k:Nat,p+64=k+32:=⟨(p+32).toNat,by omega⟩
    have pb:=pow_big k
    rw [show (p+64).toNat=k+32 by omega] at a1
    rw [show (p+64+6).toNat=k+32+6 by omega,Int.pow_add]
    have:(2:Int)^6=64:=by decide
    rw [this];omega
  obtain ⟨r1,r2⟩:=ivF_rp (w:=p+64) a0 e0 hb (by omega)
  exact (encPi_iv p0 (by omega)).right r1 r2 (by omega)
def constPi(p:Int):Vx:=trimV (encPi p) (p+8)
theorem constPi_iv{p:Int}(p0:8≤p)(p1:p≤65000):PiIv (p2 (-3-p)) (constPi p):=by
  refine ((encPi_iv p0 p1).trim (p:=p+8) (by omega)).mono ?_
  have h1:=p2_le (show -41-p≤-4-p by omega)
  have h2:p2 (-3-p)=2*p2 (-4-p):=by
    rw [show -3-p=1+(-4-p) by omega,p2_add,p2_one]
  rw [show (4:Int)-(p+8) = -4-p by omega,h2];grind
theorem constPi_fits{p:Int}(p0:8≤p)(p1:p≤16384):(constPi p).lo.fitsB=true∧(constPi p).hi.fitsB=true:=by
  have h:=constPi_iv p0 (by omega)
  have k:=encPi_iv p0 (show p≤65000 by omega)
  have r1:=(cutD_best (d:=(encPi p).lo) (p:=p+8) k.p.1 (by omega)).1.1
  have r2:=(cutD_best (d:=(encPi p).hi) (p:=p+8) k.p.2 (by omega)).2.1
  have le:=h.le
  exact ⟨fits_34 h.f.1 r1 h.lo (by have:=h.hi;grind) (by omega),fits_34 h.f.2 r2 (by have:=h.lo;grind) h.hi (by omega)⟩
theorem constPi_right{p:Int}(p0:8≤p)(p1:p≤16384):rightV (constPi p)=true:=by
  have h:=constPi_iv p0 (show p≤65000 by omega)
  obtain ⟨f1,f2⟩:=constPi_fits p0 p1
  unfold rightV
  rw [f1,f2,decide_eq_true (cmpD_le.2 h.le)];rfl
theorem constPi_cut{p:Int}(p0:8≤p)(p1:p+8≤8192):ivCut (encPi p) (p+8)=(constPi p,0):=by
  have h1:leI 1 (p+8)=true:=decide_eq_true (by omega)
  have h2:leI (p+8) 8192=true:=decide_eq_true p1
  obtain ⟨f1,f2⟩:=constPi_fits p0 (show p≤16384 by omega)
  unfold ivCut whenR roomR
  rw [h1,h2,encPi_right p0 (by omega)]
  show (if (true && true && true)=true then if ((constPi p).lo.fitsB && (constPi p).hi.fitsB)=true then (constPi p,0) else (zeroIv,3) else (zeroIv,2))=_
  rw [f1,f2];rfl
def refPi(w:Int):Vx:=ivF (piR w) w
theorem refPi_iv{w:Int}(w0:32≤w)(w1:w≤65536):PiIv (p2 (23-w)) (refPi w):=by
  obtain ⟨a0,e0,e1,_⟩:=piR_e w0 w1
  exact pi_iv w0 w1 (piR_enc w0 w1) a0 e0 e1
def tyKn:TyRow:=⟨110,2,true,[.lit .nilFunc,.bool false],.struct [(0,1,false),(1,1,false)]⟩
def tyKn8:TyRow:=⟨111,16,true,[.lit .nilFunc,.bool false,.lit .nilFunc,.bool false,.lit .nilFunc,.bool false,.lit .nilFunc,.bool false,.lit .nilFunc,.bool false,.lit .nilFunc,.bool false,.lit .nilFunc,.bool false,.lit .nilFunc,.bool false],.array 8 2 true⟩
def tyFn:TyRow:=⟨108,1,false,[.lit .nilFunc],.func⟩
def tys5:List TyRow:=tyKn8 :: tyKn :: tyFn :: tys4
theorem tys5_ok:RowsOk Tryz.prog tys5:=⟨by kernel_rfl,by kernel_rfl,by kernel_rfl,tys4_ok⟩
def tabL:List At:=[.lit .nilFunc,.bool false,.fn 134 [],.bool false,.fn 135 [],.bool false,.fn 136 [],.bool false,.fn 137 [],.bool false,.fn 134 [],.bool true,.fn 135 [],.bool true,.fn 136 [],.bool true]
def cTable:Spec:=specK [] (none,.sv (.agg tabL))
theorem cTable_vc  (Q:Tv→Prop):execF ⟨tys5,[]⟩ (fun _=>none) 0 Tryz.f88 [] Q=(Q (Tv.sv (Sv.agg [At.lit Value.nilFunc,At.bool false,At.fn 134 [],At.bool false,At.fn 135 [],At.bool false,At.fn 136 [],At.bool false,At.fn 137 [],At.bool false,At.fn 134 [],At.bool true,At.fn 135 [],At.bool true,At.fn 136 [],At.bool true]))):=by kernel_rfl
theorem cTable_ok:SpecOk Tryz.prog 88 cTable :=
  specK_ok (envOk (S:=[]) tys5_ok trivial) mixed Tryz.func88 rfl (by decide) (by decide) fun _=>⟨fun _=>none,0,by
    show execF _ _ _ _ _ (fun t=>t = .sv (.agg tabL))
    exact (cTable_vc _).mpr rfl⟩
def sEc(tb:List At)(pr:Int→Prop)(fP:Int→Fx)(rf:Fx→Int→Vx):List (FuncId×Spec):=[(88,specK [] (none,.sv (.agg tb))),(134,specK [.i .i64] fun (w:Int)=>(some (pr w),fxT (fP w))),(89,specK [.fx,.i .i64] fun (x:Fw) (q:Int)=>(some (x.Ok∧0≤q∧q≤16777216),vT (rf x.f q)))]
theorem sEc_ok:SpecsOk Tryz.prog (sEc tabL (fun w=>32≤w∧w≤65536) piF ivF):=⟨cTable_ok,cPi_ok,seIval_ok,trivial⟩
theorem cEnc_vc(p:Int)(pr:Int→Prop)(fP:Int→Fx)(rf:Fx→Int→Vx)(Q:Tv→Prop):execF ⟨tys5,sEc tabL pr fP rf⟩ (fun _=>none) 0 Tryz.f52 [.one (.int .u8 1),.one (.int .i64 p)] Q=(inR (p+64)∧((0:Int)≤1∧(1:Int)<(↑(8:Nat):Int))∧pr (p+64)∧(Fw.Ok (fw (fP (p+64)))∧(0:Int)≤p+64∧p+64≤16777216)∧Q (Tv.sv (Sv.agg (ivL true (rf (Fw.f (fw (fP (p+64)))) (p+64)))))):=by kernel_rfl
theorem piF_ok{w:Int}(w0:32≤w)(w1:w≤65536):(piF w).Ok:=by
  obtain ⟨a0,e0,e1,a1⟩:=piF_e w0 w1
  have b:blen (piF w).a≤w.toNat+5+1:=blen_pow_le (by
    rw [show (2:Int)^(w.toNat+5)=2^w.toNat*32 by rw [Int.pow_add];rfl];omega)
  exact ⟨a0,by omega,e0,by omega⟩
def cEnc:Spec:=specK [.i .u8,.i .i64] fun (k:Int) (p:Int)=>(some (k=1∧8≤p∧p≤65000),vT (encPi p))
theorem cEnc_ok:SpecOk Tryz.prog 52 cEnc :=
  specK_ok (envOk tys5_ok sEc_ok) mixed Tryz.func52 rfl (by decide) (by decide) fun (k:Int) _ (p:Int) _ hp=>⟨fun _=>none,0,by
    obtain ⟨rfl,p0,p1⟩:k=1∧8≤p∧p≤65000:=hp
    show execF _ _ _ _ _ (fun t=>t=vT (encPi p))
    have o:=piF_ok (w:=p+64) (by omega) (by omega)
    refine (cEnc_vc p (fun w=>32≤w∧w≤65536) piF ivF _).mpr ⟨⟨by omega,by omega⟩,⟨by omega,by omega⟩,⟨by omega,by omega⟩,⟨o.w,by omega,by omega⟩,?_⟩
    rw [fw_f o.1];rfl⟩
def sCo(pr:Int→Prop)(en:Int→Vx)(cu:Vx→Int→Vx×Int):List (FuncId×Spec):=[(52,specK [.i .u8,.i .i64] fun (k:Int) (p:Int)=>(some (k=1∧pr p),vT (en p))),(53,rTrim),(54,specK [.v,.i .i64] fun (v:Vx) (p:Int)=>(none,reT (cu v p)))]
theorem cIs_vc(k:Int)(Q:Tv→Prop):execF ⟨tys5,[]⟩ (fun _=>none) 0 Tryz.f51 [.one (.int .u8 k)] Q=(br (ltI 0 k) (Q (bT (ltI k 8))) (Q (bT false))):=by kernel_rfl
def cIs:Spec:=specK [.i .u8] fun (k:Int)=>(none,bT (ltI 0 k && ltI k 8))
theorem cIs_ok:SpecOk Tryz.prog 51 cIs :=
  specK_ok (envOk (S:=[]) tys5_ok trivial) mixed Tryz.func51 rfl (by decide) (by decide) fun (k:Int) _ _=>⟨fun _=>none,0,by
    show execF _ _ _ _ _ (fun t=>t=bT (ltI 0 k && ltI k 8))
    refine (cIs_vc k _).mpr (br_intro (fun h=>?_) fun h=>?_)
    · rw [h];rfl
    · rw [h];rfl⟩
theorem cConst_vc(p:Int)(pr:Int→Prop)(en:Int→Vx)(cu:Vx→Int→Vx×Int)(Q:Tv→Prop):execF ⟨tys5,(51,cIs) :: sCo pr en cu⟩ (fun _=>none) 0 Tryz.f25 [.one (.int .u8 1),.one (.int .i64 p)] Q=(br (ltI p 8) (Q (Tv.tup [Sv.agg [At.bool false,At.words true [],At.int .i64 0,At.bool false,At.words true [],At.int .i64 0],Sv.one (At.int .i64 2)])) (br (ltI 8192 p) (Q (Tv.tup [Sv.agg [At.bool false,At.words true [],At.int .i64 0,At.bool false,At.words true [],At.int .i64 0],Sv.one (At.int .i64 2)])) (((1:Int)=(1:Int)∧pr p)∧inR (p+8)∧br (ltI 8192 (p+8)) (inR (p+8)∧(Vx.Sm 34359738368 (en p)∧(0:Int)≤p+8∧p+8≤1099511627776)∧Q (Tv.tup [Sv.agg (ivL true (trimV (en p) (p+8))),Sv.one (At.int .i64 0)])) (inR (p+8)∧Q (Tv.tup [Sv.agg (ivL false (cu (en p) (p+8)).fst),Sv.one (At.int .i64 (cu (en p) (p+8)).snd)]))))):=by kernel_rfl
def constR(p:Int):Vx×Int:=if 8≤p∧p≤8192 then (constPi p,0) else (zeroIv,2)
def cConst:Spec:=specK [.i .u8,.i .i64] fun (k:Int) (p:Int)=>(some (k=1),reT (constR p))
theorem sCo_ok:SpecsOk Tryz.prog ((51,cIs) :: sCo (fun p=>8≤p∧p≤65000) encPi ivCut):=⟨cIs_ok,cEnc_ok,rTrim_ok,vXCut_ok,trivial⟩
theorem cConst_ok:SpecOk Tryz.prog 25 cConst :=
  specKW_ok (envOk tys5_ok sCo_ok) mixed Tryz.func25 rfl (by decide) (by decide) fun (k:Int) _ (p:Int) _ hp=>⟨fun _=>none,0,by
    obtain rfl:k=1:=hp
    show execF _ _ _ _ _ (fun t=>t=reT (constR p)∨fgT t=reT (constR p))
    refine (cConst_vc p (fun p=>8≤p∧p≤65000) encPi ivCut _).mpr (br_intro (fun h1=>.inr ?_) fun h1=>br_intro (fun h2=>.inr ?_) fun h2=>?_)
    · rw [constR,if_neg (by have:=ltI_true.1 h1;omega)];rfl
    · rw [constR,if_neg (by have:=ltI_true.1 h2;omega)];rfl
    · have h1:=ltI_false.1 h1
      have h2:=ltI_false.1 h2
      refine ⟨⟨rfl,by omega,by omega⟩,⟨by omega,by omega⟩,br_intro (fun h3=>⟨⟨by omega,by omega⟩,⟨(right_sm (encPi_right (p:=p) (by omega) (by omega))).mono (by omega),by omega,by omega⟩,.inr ?_⟩) fun h3=>⟨⟨by omega,by omega⟩,.inl ?_⟩⟩
      · rw [constR,if_pos ⟨by omega,by omega⟩];rfl
      · rw [constR,if_pos ⟨by omega,by omega⟩,constPi_cut (by omega) (by have:=ltI_false.1 h3;omega)];rfl⟩
structure HfIv (d:Rat) (h:Vx):Prop where
  p:h.P
  enc:Enc piS (2*h.lo.rv) (2*h.hi.rv)
  lo:3/2≤h.lo.rv
  hi:h.hi.rv≤2
  nar:h.hi.rv≤h.lo.rv+d
theorem HfIv.le{d:Rat}{h:Vx}(k:HfIv d h):h.lo.rv≤h.hi.rv:=by have:=k.enc.self;grind
theorem HfIv.off{d:Rat}{h:Vx}(k:HfIv d h):Off0 h:=.inl (by have:=k.lo;grind)
theorem p2_m1:p2 (-1)=1/2:=by decide +kernel
theorem PiIv.half{d:Rat}{v:Vx}(h:PiIv d v):HfIv (d/2) (scaleV v (-1)):=by
  have r1:(scaleV v (-1)).lo.rv=v.lo.rv*(1/2):=by rw [←p2_m1];exact rv_shift h.p.1
  have r2:(scaleV v (-1)).hi.rv=v.hi.rv*(1/2):=by rw [←p2_m1];exact rv_shift h.p.2
  have l:=h.lo
  have k:=h.hi
  have n:=h.nar
  have e1:2*(scaleV v (-1)).lo.rv=v.lo.rv:=by rw [r1];grind
  have e2:2*(scaleV v (-1)).hi.rv=v.hi.rv:=by rw [r2];grind
  exact ⟨⟨shiftD_p,shiftD_p⟩,by rw [e1,e2];exact h.enc,by grind,by grind,by grind⟩
theorem HfIv.common{d d':Rat}{u v:Vx}(h:HfIv d u)(k:HfIv d' v):∃ c:Rat,InV u c∧InV v c∧3/2≤c∧c≤2:=by
  have m1:=h.enc.meets k.enc
  have m2:=k.enc.meets h.enc
  have l1:=h.le
  have l2:=k.le
  have a1:=h.lo
  have a2:=k.lo
  have b1:=h.hi
  have b2:=k.hi
  rcases (show u.lo.rv≤v.lo.rv∨v.lo.rv≤u.lo.rv by grind) with c | c
  · exact ⟨v.lo.rv,⟨c,by grind⟩,⟨by grind,l2⟩,a2,by grind⟩
  · exact ⟨u.lo.rv,⟨by grind,l1⟩,⟨c,by grind⟩,a1,by grind⟩
def quoW(h:Vx)(x:Dx)(w:Int):Vx:=divV (pointV x) h w
def nW(h:Vx)(x:Dx)(w:Int):Dx:=nearD (quoW h x w).lo
def restW(h:Vx)(x:Dx)(w:Int):Vx:=lessV (pointV x) (timesV (pointV (nW h x w)) h (w+64)) w
def sureW(h:Vx)(x:Dx)(w:Int):Bool:=eqI (cmpD (nW h x w) (nearD (quoW h x w).hi)) 0
def nI(h:Vx)(x:Dx)(w:Int):Int:=wholeS (nW h x w)
def tryW(h:Vx)(x:Dx)(p w:Int):Int×Vx×Bool:=if sureW h x w=true then (by4I (nW h x w),restW h x w,narrowV (restW h x w) p) else (0,zeroIv,false)
theorem pointV_in{x:Dx}(hx:0≤x.m):InV (pointV x) x.rv:=⟨by show (oneD x).rv≤_;rw [rv_one hx];exact Rat.le_refl,by show _≤(oneD x).rv;rw [rv_one hx];exact Rat.le_refl⟩
theorem pointV_rv{x:Dx}(hx:0≤x.m):(pointV x).lo.rv=x.rv∧(pointV x).hi.rv=x.rv:=⟨rv_one hx,rv_one hx⟩
section
variable {d:Rat} {h:Vx} (k:HfIv d h) {x:Dx} (hx:0≤x.m) {w:Int} (hw:1≤w)
include k hx hw
theorem quoW_in{c:Rat}(hc:InV h c):InV (quoW h x w) (x.rv*c⁻¹):=div_in (pointV_p x) k.p k.off hw (pointV_in hx) hc
omit k hx hw in
theorem nW_near:NearI (nI h x w) (quoW h x w).lo.rv:=nearD_whole (divV_p _ _ _).1
theorem sure_near(hs:sureW h x w=true){c:Rat}(hc:InV h c):NearI (nI h x w) (x.rv*c⁻¹):=by
  have n1:=nW_near (h:=h) (x:=x) (w:=w)
  have n2:=nearD_whole (d:=(quoW h x w).hi) (divV_p _ _ _).2
  have e:wholeS (nW h x w)=wholeS (nearD (quoW h x w).hi):=nearD_eq.1 (cmpD_eq0.1 (eqI_true.1 hs))
  have e':nI h x w=wholeS (nearD (quoW h x w).hi):=e
  rw [←e'] at n2
  obtain ⟨a,b⟩:=quoW_in k hx hw hc
  obtain ⟨a1,a2,a3⟩:=n1
  obtain ⟨b1,b2,b3⟩:=n2
  refine ⟨by grind,by grind,fun h=>?_⟩
  rcases h with h | h
  · exact a3 (.inl (by grind))
  · exact b3 (.inr (by grind))
theorem rest_in{c:Rat}(hc:InV h c):InV (restW h x w) (x.rv-(nI h x w:Rat)*c):=by
  have en:(nW h x w).rv=(nI h x w:Rat):=(wholeS_rv nearD_e).symm
  have np:0≤(nW h x w).m:=nearD_p
  obtain ⟨a1,a2⟩:=prod_in (pointV_p (nW h x w)) k.p (pointV_in np) hc
  rw [en] at a1 a2
  obtain ⟨t1,t2⟩:=times_best (v:=pointV (nW h x w)) (u:=h) (p:=w+64) (by omega) (pointV_p _) k.p
  have t1':=t1.2.1
  have t2':=t2.2.1
  obtain ⟨l1,l2⟩:=less_best (v:=pointV x) (u:=timesV (pointV (nW h x w)) h (w+64)) (pointV_p x) (trimV_p _ _) hw
  obtain ⟨p1,p2⟩:=pointV_rv hx
  have l1':=l1.2.1
  have l2':=l2.2.1
  constructor
  · show (restW h x w).lo.rv≤_
    have:(restW h x w).lo.rv≤(pointV x).lo.rv-(timesV (pointV (nW h x w)) h (w+64)).hi.rv:=l1'
    grind
  · show _≤(restW h x w).hi.rv
    have:(pointV x).hi.rv-(timesV (pointV (nW h x w)) h (w+64)).lo.rv≤(restW h x w).hi.rv:=l2'
    grind
end
theorem rp_p2{p:Int}(k:Int)(hp:1≤p):Rp p (p2 k)∧Rp p (-(p2 k)):=by
  have e1:((1:Int):Rat)=1:=rfl
  have a:=p2_le hp
  have b:=p2_pos p
  rw [p2_one] at a
  have h:Rp p (p2 k):=⟨1,k,by rw [e1,Rat.one_mul],by rw [e1];grind,by rw [e1];grind⟩
  exact ⟨h,h.neg⟩
theorem inv_le1{c:Rat}(h:3/2≤c):0<c⁻¹∧c⁻¹≤2/3:=by
  have hc:0<c:=by grind
  have p:=Rat.inv_pos.2 hc
  have e:=Rat.inv_mul_cancel c (by grind)
  have m:=rmL h (rlL p)
  exact ⟨p,by grind⟩
theorem quoW_bd{d:Rat}{h:Vx}(k:HfIv d h){x:Dx}(hx:0≤x.m){w:Int}(hw:1≤w){K:Int}(h1:x.rv<p2 K)(h2:-(p2 K)<x.rv) :
    -(p2 K)≤(quoW h x w).lo.rv∧(quoW h x w).lo.rv≤p2 K∧-(p2 K)≤(quoW h x w).hi.rv∧(quoW h x w).hi.rv≤p2 K:=by
  obtain ⟨⟨a,b,hc,e1⟩,⟨a',b',hc',e2⟩⟩:=div_at (pointV x) h w
  obtain ⟨p1,p2'⟩:=pointV_rv hx
  have ra:∀ {a b:Dx},Cor (pointV x) h a b→a.rv=x.rv∧3/2≤b.rv:=fun {a b} hc=>by
    have l:=k.lo
    have le:=k.le
    rcases hc.1 with e | e<;>rcases hc.2 with e' | e'<;>rw [e,e']<;>exact ⟨by first | exact p1 | exact p2',by grind⟩
  have bd:∀ {a b:Dx},Cor (pointV x) h a b→-(p2 K)≤a.rv*b.rv⁻¹∧a.rv*b.rv⁻¹≤p2 K:=fun {a b} hc=>by
    obtain ⟨r1,r2⟩:=ra hc
    obtain ⟨i0,i1⟩:=inv_le1 r2
    rw [r1]
    have q:=p2_pos K
    rcases (show 0≤x.rv∨x.rv≤0 by grind) with s | s
    · have m1:=rmL (show b.rv⁻¹≤1 by grind) s
      have m0:=rmN s (rlL i0)
      constructor<;>grind
    · have m1:=rmL (show b.rv⁻¹≤1 by grind) (show 0≤-x.rv by grind)
      have m0:=rmN (show 0≤-x.rv by grind) (rlL i0)
      constructor<;>grind
  obtain ⟨rp1,rp2⟩:=rp_p2 (p:=w) K hw
  have c1:=(hc.best (pointV_p x) k.p k.off k.le hw).2.1
  have c2:=(hc'.best (pointV_p x) k.p k.off k.le hw).2.2
  have b1:=bd hc
  have b2:=bd hc'
  have l1:=c1.2.2 _ rp2 b1.1
  have l2:=c2.2.2 _ rp1 b2.2
  have u1:=c1.2.1
  have u2:=c2.2.1
  show _≤(divV (pointV x) h w).lo.rv∧(divV (pointV x) h w).lo.rv≤_∧_≤(divV (pointV x) h w).hi.rv∧(divV (pointV x) h w).hi.rv≤_
  rw [e1,e2]
  exact ⟨l1,by grind,by grind,l2⟩
theorem whole_sm{z:Dx}(f:OneF z)(e0:0≤z.e){K:Nat}(h:(z.m:Rat)*p2 z.e<p2 K):z.Sm K:=by
  have m0:=f.p
  by_cases hz:z.m=0
  · rw [f.zero hz];exact ⟨by show blen (val [])≤K;rw [show val []=0 from rfl];exact Nat.zero_le _,by show -(K:Int)≤0;omega,by show (0:Int)≤K;omega⟩
  · have g:=amt_ge (m:=z.m) (e:=z.e) (by omega)
    have:=p2_lt_iff.1 (show p2 (z.e+(blen z.m:Int)-1)<p2 K by grind)
    have b:=blen_pos (show 0<z.m by omega)
    exact ⟨by omega,by omega,by omega⟩
theorem nW_sm{d:Rat}{h:Vx}(k:HfIv d h){x:Dx}(hx:0≤x.m){w:Int}(hw:1≤w){K:Nat}(h1:x.rv<p2 K)(h2:-(p2 K)<x.rv):(nW h x w).Sm (K+1):=by
  obtain ⟨b1,b2,_,_⟩:=quoW_bd k hx hw h1 h2
  obtain ⟨n1,n2,_⟩:=nW_near (h:=h) (x:=x) (w:=w)
  have en:(nW h x w).rv=(nI h x w:Rat):=(wholeS_rv nearD_e).symm
  rw [←en] at n1 n2
  have f:OneF (nW h x w):=nearD_f
  refine whole_sm f nearD_e ?_
  have q0:1≤p2 (K:Int):=by
    have:=p2_le (show (0:Int)≤K by omega)
    rwa [p2_zero] at this
  have q1:p2 ((K+1:Nat):Int)=2*p2 K:=by
    rw [show ((K+1:Nat):Int)=1+(K:Int) by omega,p2_add,p2_one]
  obtain ⟨r1,r2⟩:=rv_amt f.p
  rw [q1]
  rcases (show 0≤(nW h x w).rv∨(nW h x w).rv≤0 by grind) with s | s
  · rw [←r1 s];grind
  · rw [←r2 s];grind
theorem quoW_sm{h:Vx}{x:Dx}{w:Int}{N:Nat}(hx:0≤x.m)(hp:h.P)(sx:x.Sm N)(sh:h.Sm (N+N))(w0:0≤w)(w1:w≤N):(quoW h x w).Sm (200*N+100):=by
  have z:=pointV_sm hx sx
  have o:∀ {a b:Dx} {up:Bool},Cor (pointV x) h a b→(overD a b w up).Sm (200*N+100):=fun {a b up} hc=>by
    have ha:0≤a.m∧a.Sm (N+N):=by rcases hc.1 with e | e<;>rw [e]<;>exact ⟨oneD_p,z.1⟩
    have hb:0≤b.m∧b.Sm (N+N):=by rcases hc.2 with e | e<;>rw [e];exact ⟨hp.1,sh.1⟩;exact ⟨hp.2,sh.2⟩
    exact (overD_sm (up:=up) ha.1 hb.1 ha.2 hb.2 w0 (by omega)).mono (by omega)
  obtain ⟨⟨a,b,hc,e1⟩,⟨a',b',hc',e2⟩⟩:=div_at (pointV x) h w
  constructor
  · show (divV (pointV x) h w).lo.Sm _
    rw [e1];exact o hc
  · show (divV (pointV x) h w).hi.Sm _
    rw [e2];exact o hc'
structure Dx.Bd (L T:Int) (d:Dx):Prop where
  l0:0≤L
  t0:0≤T
  lo:-L≤d.e
  hi:d.e+blen d.m≤T
theorem Dx.Bd.mono{L T L' T':Int}{d:Dx}(h:d.Bd L T)(hl:L≤L')(ht:T≤T'):d.Bd L' T':=by
  obtain ⟨a,b,c,e⟩:=h
  exact ⟨by omega,by omega,by omega,by omega⟩
theorem Dx.Bd.sm{L T:Int}{d:Dx}(h:d.Bd L T){N:Nat}(hn:L+T≤N):d.Sm N:=by
  obtain ⟨a,b,c,e⟩:=h
  exact ⟨by omega,by omega,by omega⟩
theorem mkD_bd{neg:Bool}{m e L T:Int}(h:0≤m)(l0:0≤L)(t0:0≤T)(hl:-L≤e)(ht:e+blen m≤T):(mkD neg m e).Bd L T:=by
  by_cases hz:m=0
  · subst hz;rw [mkD_zero]
    exact ⟨l0,t0,by show -L≤0;omega,by show (0:Int)+blen (val [])≤T;rw [show blen (val [])=0 from rfl];omega⟩
  · have hp:0<m:=by omega
    have hm:=mkD_m (neg:=neg) (e:=e) h
    have he:(mkD neg m e).e=e+tz m:=by unfold mkD;rw [if_neg hz]
    obtain ⟨q,hq,hq2⟩:=tz_spec hp
    have p:=two_pow_pos (tz m)
    generalize tz m=t at *
    have hdiv:m/2^t=2*q+1:=by rw [hq2,Int.mul_ediv_cancel_left _ (by omega)]
    have hb:blen m=blen (2*q+1)+t:=by
      rw [hq2,Int.mul_comm]
      exact blen_mul_pow (by omega) _
    refine ⟨l0,t0,by rw [he];omega,?_⟩
    rw [he,hm,hdiv];omega
theorem mkS_bd{s e L T:Int}(l0:0≤L)(t0:0≤T)(hl:-L≤e)(ht:e+blen (s.natAbs:Int)≤T):(mkS s e).Bd L T:=mkD_bd (by omega) l0 t0 hl ht
theorem Dx.Bd.one{L T:Int}{d:Dx}(hd:0≤d.m)(h:d.Bd L T):(oneD d).Bd L T:=mkD_bd hd h.l0 h.t0 h.lo h.hi
theorem Dx.Bd.neg{L T:Int}{d:Dx}(hd:0≤d.m)(h:d.Bd L T):(negD d).Bd L T:=mkD_bd hd h.l0 h.t0 h.lo h.hi
theorem Dx.Bd.shift{L T n L' T':Int}{d:Dx}(hd:0≤d.m)(h:d.Bd L T)(l0:0≤L')(t0:0≤T')(hl:L-n≤L')(ht:T+n≤T'):(shiftD d n).Bd L' T' :=
  mkD_bd hd l0 t0 (by have:=h.lo;omega) (by have:=h.hi;omega)
theorem Dx.Bd.times{L T L' T':Int}{a b:Dx}(ha:0≤a.m)(hb:0≤b.m)(h:a.Bd L T)(k:b.Bd L' T'):(timesD a b).Bd (L+L') (T+T'):=by
  have:=blen_mul ha hb
  obtain ⟨a1,a2,a3,a4⟩:=h
  obtain ⟨b1,b2,b3,b4⟩:=k
  exact mkD_bd (Int.mul_nonneg ha hb) (by omega) (by omega) (by omega) (by omega)
theorem blen_scl{d:Dx}(hd:0≤d.m)(k:Nat):(blen ((d.sm*2^k).natAbs:Int):Int)≤blen d.m+k:=by
  rw [sm_abs hd]
  by_cases h:d.m=0
  · rw [h,Int.zero_mul];show ((0:Nat):Int)≤_;omega
  · rw [blen_mul_pow (by omega)];omega
theorem Dx.Bd.plusX{L T:Int}{a b:Dx}(ha:0≤a.m)(hb:0≤b.m)(h:a.Bd L T)(k:b.Bd L T):(plusX a b).Bd L (T+1):=by
  obtain ⟨l0,t0,a1,a2⟩:=h
  obtain ⟨_,_,b1,b2⟩:=k
  unfold Go.Proofs.YtgeihpalcagpfaaGreatDoor.plusX
  split
  · exact ⟨l0,by omega,b1,by omega⟩
  · split
    · exact ⟨l0,by omega,a1,by omega⟩
    · have c1:=blen_scl ha (a.e-min a.e b.e).toNat
      have c2:=blen_scl hb (b.e-min a.e b.e).toNat
      obtain ⟨N,hN⟩:∃ N:Nat,(N:Int)=max (T-min a.e b.e) 0:=⟨(max (T-min a.e b.e) 0).toNat,by omega⟩
      have d:=blen_natAbs_add (X:=a.sm*2^(a.e-min a.e b.e).toNat) (Y:=b.sm*2^(b.e-min a.e b.e).toNat) (N:=N) (by omega) (by omega)
      refine mkS_bd l0 (by omega) (by omega) ?_
      omega
theorem Dx.Bd.plus{L T:Int}{a b:Dx}(ha:0≤a.m)(hb:0≤b.m)(h:a.Bd L T)(k:b.Bd L T):(plusD a b).Bd L (T+1):=Dx.Bd.plusX oneD_p oneD_p (h.one ha) (k.one hb)
theorem Dx.Bd.cut{L T:Int}{d:Dx}{p:Int}{up:Bool}(hd:0≤d.m)(hp:0≤p)(h:d.Bd L T):(cutD d p up).Bd L (T+1):=by
  have m0:=oneD_p (d:=d)
  obtain ⟨l0,t0,a1,a2⟩:=h.one hd
  unfold cutD cutX
  split
  · exact ⟨l0,by omega,a1,by omega⟩
  · rename_i hn
    have p0:=two_pow_pos ((blen (oneD d).m:Int)-p).toNat
    have q0:0≤(oneD d).m/2^((blen (oneD d).m:Int)-p).toNat:=Int.ediv_nonneg m0 (by omega)
    have hb:(blen ((oneD d).m/2^((blen (oneD d).m:Int)-p).toNat+if up == (oneD d).neg then 0 else 1):Int)≤max (blen (oneD d).m-((blen (oneD d).m:Int)-p)) 0+1:=by
      obtain ⟨N,hN⟩:∃ N:Nat,(N:Int)=max (blen (oneD d).m-((blen (oneD d).m:Int)-p)) 0:=⟨(max (blen (oneD d).m-((blen (oneD d).m:Int)-p)) 0).toNat,by omega⟩
      have q1:(oneD d).m/2^((blen (oneD d).m:Int)-p).toNat<2^N:=by
        refine Int.ediv_lt_of_lt_mul p0 ?_
        rw [←Int.pow_add]
        exact Int.lt_of_lt_of_le (blen_lt _) (two_pow_le (by omega))
      have:blen ((oneD d).m/2^((blen (oneD d).m:Int)-p).toNat+if up == (oneD d).neg then 0 else 1)≤N+1:=blen_le (by
        rw [Int.pow_succ];have:=two_pow_pos N;split<;>omega)
      omega
    refine mkD_bd (by split<;>omega) l0 (by omega) (by omega) ?_
    omega
def Vx.Bd(L T:Int)(v:Vx):Prop:=v.lo.Bd L T∧v.hi.Bd L T
theorem Vx.Bd.sm{L T:Int}{v:Vx}(h:v.Bd L T){N:Nat}(hn:L+T≤N):v.Sm N:=⟨h.1.sm hn,h.2.sm hn⟩
theorem Vx.Bd.mono{L T L' T':Int}{v:Vx}(h:v.Bd L T)(hl:L≤L')(ht:T≤T'):v.Bd L' T':=⟨h.1.mono hl ht,h.2.mono hl ht⟩
theorem Vx.Bd.trim{L T:Int}{v:Vx}{p:Int}(hv:v.P)(hp:0≤p)(h:v.Bd L T):(trimV v p).Bd L (T+1):=⟨h.1.cut hv.1 hp,h.2.cut hv.2 hp⟩
theorem Dx.Bd.point{L T:Int}{d:Dx}(hd:0≤d.m)(h:d.Bd L T):(pointV d).Bd L T:=⟨h.one hd,h.one hd⟩
theorem Vx.Bd.turn{L T:Int}{v:Vx}(hv:v.P)(h:v.Bd L T):(turnV v).Bd L T:=⟨h.2.neg hv.2,h.1.neg hv.1⟩
theorem Vx.Bd.plus{L T:Int}{v u:Vx}{p:Int}(hv:v.P)(hu:u.P)(hp:0≤p)(h:v.Bd L T)(k:u.Bd L T):(plusV v u p).Bd L (T+1+1):=Vx.Bd.trim (v:=sumV v u) ⟨plusD_p,plusD_p⟩ hp ⟨h.1.plus hv.1 hu.1 k.1,h.2.plus hv.2 hu.2 k.2⟩
theorem Vx.Bd.less{L T:Int}{v u:Vx}{p:Int}(hv:v.P)(hu:u.P)(hp:0≤p)(h:v.Bd L T)(k:u.Bd L T):(lessV v u p).Bd L (T+1+1):=h.plus (u:=turnV u) hv ⟨negD_p,negD_p⟩ hp (k.turn hu)
theorem spanS_bd{L T:Int}{v:Vx}{d:Dx}(h:v.Bd L T)(k:d.Bd L T):(spanS v d).Bd L T:=by
  unfold spanS
  constructor
  · show (if cmpD d v.lo<0 then d else v.lo).Bd L T
    split
    · exact k
    · exact h.1
  · show (if 0<cmpD d v.hi then d else v.hi).Bd L T
    split
    · exact k
    · exact h.2
theorem Vx.Bd.times{L T L' T':Int}{v u:Vx}{p:Int}(hv:v.P)(hu:u.P)(hp:0≤p)(h:v.Bd L T)(k:u.Bd L' T'):(timesV v u p).Bd (L+L') (T+T' + 1) :=
  Vx.Bd.trim (prodV_p v u) hp (spanS_bd (spanS_bd (spanS_bd ⟨h.1.times hv.1 hu.1 k.1,h.1.times hv.1 hu.1 k.1⟩ (h.1.times hv.1 hu.2 k.2)) (h.2.times hv.2 hu.1 k.1)) (h.2.times hv.2 hu.2 k.2))
theorem fits_bd{d:Dx}(h:d.fitsB=true):d.Bd 32768 98304:=by
  have e:=fits_e h
  have:=(fits_sm h).1
  exact ⟨by omega,by omega,by omega,by omega⟩
end Go.Proofs.YtgeihpalcagpfaaGreatDoor
