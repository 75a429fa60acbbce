/-
Package series: Sum, of the terms of a sine.
The sums of a sine's terms in so many bits: how great they are, what they enclose. Plain.
How far a rounding lies from what is rounded; narrow intervals. Plain.
Numbers in so many bits with their error: package ulpref09.
Intervals as rational numbers: what is reckoned of what lies in them lies in the answer; of parts, within; with more bits, within. Plain.
Intervals as rational numbers, second part: quotients, roots; what the statements of ulplaw06 ask. Plain.
Whole parts, numbers from intervals, squares; what is few enough. Plain.
Package ulpref06: sums and products.
Package sincore.
Package ulpref13.
Sines and cosines: what the intervals enclose, how narrow they are, that they have room. Plain.
The whole number next to a number, its rest by 4; one form. Plain.
Package raw: powers of 2, the nearest whole number, its rest by 4.
The references' naturals (ulpref03): Div, plain part.
The references' naturals (ulpref03): Div.
The references' quotient of two numbers is the program's. Plain.
The references: whole numbers, quotients.
-/
import Derived.Test.YtenkjloaghmjfaaGreatDoorMg2
import Derived.Test.YtenkjloaghmjfaaGreatDoorMg1
import Derived.Test.YtenkjloaghmjfaaGreatDoorMg0
namespace Go.Proofs.YtenkjloaghmjfaaGreatDoor
open Go.RowKit
def Tm(g:Fx→Int→Fx)(t:Fx):Nat→Fx
  | 0=>t
  | k+1=>g (Tm g t k) (k+1:Nat)
def Sm2(g:Fx→Int→Fx)(t:Fx)(b:Nat):Nat→Fx
  | 0=>⟨0,0⟩
  | k+1=>if k % 2=b then YY (Sm2 g t b k) (Tm g t k) else Sm2 g t b k
def findK(P:Nat→Bool):Nat→Nat→Nat
  | 0,k=>k
  | n+1,k=>match P k with | true=>k | false=>findK P n (k+1)
def stopK(g:Fx→Int→Fx)(t:Fx):Nat:=findK (fun k=>decide ((Tm g t k).a=0)) 1048576 1
def sumR(g:Fx→Int→Fx)(t:Fx)(b:Nat):Fx:=zN (Sm2 g t b (stopK g t)) ((Tm g t (stopK g t)).e+4)
def SumOk(g:Fx→Int→Fx)(pr:Fx→Int→Prop)(t:Fx):Prop :=
  1≤stopK g t∧stopK g t≤1048577∧(Tm g t (stopK g t)).a=0∧(∀ k,1≤k→k<stopK g t→(Tm g t k).a≠0)∧(∀ k,k<stopK g t→pr (Tm g t k) (k+1:Nat)) ∧
    ∀ k,k≤stopK g t→((Tm g t k).Ok∧(Tm g t k).e≤549755813888)∧(Sm2 g t 0 k).Ok∧(Sm2 g t 1 k).Ok
def wAlt(g:Int→Fx→Int→Fx→Int→Fx)(pr:Int→Fx→Int→Fx→Int→Prop):qU:=fun l=>match l with
  | [.agg [.words false xs,.int .u64 e],.one (.int .i64 k),.one (.ref [.int .i64 f]),.one (.ref [.words false ys,.int .u64 d]),.one (.ref [.int .i64 w])] =>
    (some (xs=ws (val xs)∧ys=ws (val ys)∧pr f ⟨val ys,d⟩ w ⟨val xs,e⟩ k),fxT (g f ⟨val ys,d⟩ w ⟨val xs,e⟩ k))
  | _=>ZL
def stepA(f:Int)(sq:Fx)(w:Int)(t:Fx)(k:Int):Fx:=qE (qE (Xb t sq w) (f+2*(k-1))) (f+2*(k-1)+1)
theorem cAlt_vc(f k w d e:Int)(xs ys:List Int)(Q:Tv→Prop):qH ⟨tys3,sSer⟩ (fun _=>none) 0 Tryz.f183 [.agg [.words false xs,.int .u64 e],.one (.int .i64 k),.one (.ref [.int .i64 f]),.one (.ref [.words false ys,.int .u64 d]),.one (.ref [.int .i64 w])] Q=(inR (k-1)∧inR ((2:Int)*(k-1))∧inR (f+2*(k-1))∧(Fw.Ok (Fw.mk xs e)∧Fw.Ok (Fw.mk ys d)∧(0:Int)≤w∧w≤16777216∧(Xb (Fw.f (Fw.mk xs e)) (Fw.f (Fw.mk ys d)) w).e≤1099511627776)∧((0:Int)≤(fw (Xb (Fw.f (Fw.mk xs e)) (Fw.f (Fw.mk ys d)) w)).e∧(fw (Xb (Fw.f (Fw.mk xs e)) (Fw.f (Fw.mk ys d)) w)).e≤1099511627776∧(0:Int)<IntKind.wrap IntKind.u64 (f+2*(k-1))∧IntKind.wrap IntKind.u64 (f+2*(k-1))<18446744073709551616)∧((0:Int)≤(fw (qE (Fw.f (fw (Xb (Fw.f (Fw.mk xs e)) (Fw.f (Fw.mk ys d)) w))) (IntKind.wrap IntKind.u64 (f+2*(k-1))))).e∧(fw (qE (Fw.f (fw (Xb (Fw.f (Fw.mk xs e)) (Fw.f (Fw.mk ys d)) w))) (IntKind.wrap IntKind.u64 (f+2*(k-1))))).e≤1099511627776∧(0:Int)<IntKind.wrap IntKind.u64 (IntKind.wrap IntKind.u64 (f+2*(k-1))+1)∧IntKind.wrap IntKind.u64 (IntKind.wrap IntKind.u64 (f+2*(k-1))+1)<18446744073709551616)∧Q (Tv.sv (Sv.agg (fwL false (fw (qE (Fw.f (fw (qE (Fw.f (fw (Xb (Fw.f (Fw.mk xs e)) (Fw.f (Fw.mk ys d)) w))) (IntKind.wrap IntKind.u64 (f+2*(k-1)))))) (IntKind.wrap IntKind.u64 (IntKind.wrap IntKind.u64 (f+2*(k-1))+1)))))))):=by kernel_rfl
def preA(f:Int)(sq:Fx)(w:Int)(t:Fx)(k:Int):Prop:=t.Ok∧sq.Ok∧0≤w∧w≤16777216∧(Xb t sq w).e≤549755813888∧1≤k∧k≤1048577∧1≤f∧f≤2
theorem fx_ok{xs:List Int}{e:Int}(h:xs=ws (val xs))(k:Fx.Ok ⟨val xs,e⟩):Fw.Ok ⟨xs,e⟩:=by
  have:=k.w
  have e1:fw ⟨val xs,e⟩=⟨xs,e⟩:=by show (⟨ws (val xs),e⟩:Fw)=_;rw [←h]
  rwa [e1] at this
theorem mulF_e0{x y:Fx}{w:Int}(hx:x.Ok)(hy:y.Ok):0≤(Xb x y w).a∧0≤(Xb x y w).e:=by
  have m1:=Int.mul_nonneg hx.1 hy.1
  have p0:=two_pow_pos w.toNat
  have:=mulF_lo (k:=w.toNat) hx.1 hy.1 hx.2.2.1 hy.2.2.1
  exact ⟨Int.ediv_nonneg m1 (by omega),by show 0≤upI _ _-_;omega⟩
theorem shortF_e0{x:Fx}{d:Int}(ha:0≤x.a)(he:0≤x.e)(hd:0<d):0≤(qE x d).a∧2≤(qE x d).e∧(qE x d).e≤x.e+2:=by
  have q0:=Int.ediv_nonneg he (show 0≤d by omega)
  have q1:=Int.ediv_le_self d he
  exact ⟨Int.ediv_nonneg ha (by omega),show 2≤x.e/d+2 by omega,show x.e/d+2≤x.e+2 by omega⟩
theorem cAlt_ok:SpecOk Tryz.prog 183 (wAlt stepA preA) :=
  specOk_pat (qO QM sSer_ok) mixed Tryz.func183 rfl (by decide) 5 (by decide) fun l p t hwf e hp=>by
    unfold wAlt at e
    split at e
    · rename_i xs e0 k f ys d w
      cases e
      obtain ⟨hx,hy,ot,os,w0,w1,me,k0,k1,f0,f1⟩:xs=ws (val xs)∧ys=ws (val ys)∧preA f ⟨val ys,d⟩ w ⟨val xs,e0⟩ k:=hp
      have z:=mulF_e0 (w:=w) ot os
      have z1:=shortF_e0 (d:=f+2*(k-1)) z.1 z.2 (by omega)
      refine ⟨Nat.le_refl 5,fun _=>none,0,(cAlt_vc f k w d e0 xs ys _).mpr ?_⟩
      have e1:IntKind.u64.wrap (f+2*(k-1))=f+2*(k-1):=ZY ⟨by omega,by omega⟩
      have e2:IntKind.u64.wrap (f+2*(k-1)+1)=f+2*(k-1)+1:=ZY ⟨by omega,by omega⟩
      have e3:(fw (Xb ⟨val xs,e0⟩ ⟨val ys,d⟩ w)).f=Xb ⟨val xs,e0⟩ ⟨val ys,d⟩ w:=XD z.1
      have e4:(fw (qE (Xb ⟨val xs,e0⟩ ⟨val ys,d⟩ w) (f+2*(k-1)))).f=qE (Xb ⟨val xs,e0⟩ ⟨val ys,d⟩ w) (f+2*(k-1)):=XD z1.1
      have e5:∀ z:Fx,(fw z).e=z.e:=fun _=>rfl
      have e6:(Fw.mk xs e0).f=⟨val xs,e0⟩:=rfl
      have e7:(Fw.mk ys d).f=⟨val ys,d⟩:=rfl
      rw [e6,e7,e1,e2,e3,e4,e5,e5]
      exact ⟨⟨by omega,by omega⟩,⟨by omega,by omega⟩,⟨by omega,by omega⟩,⟨fx_ok hx ot,fx_ok hy os,w0,w1,by omega⟩,⟨z.2,by omega,by omega,by omega⟩,⟨by omega,by omega,by omega,by omega⟩,.inl rfl⟩
    · cases e;exact hp.elim
def tyFx2:TyRow:=⟨168,4,true,[.words true [],.int .u64 0,.words true [],.int .u64 0],.array 2 2 true⟩
def tys4:List TyRow:=tyFx2 :: tys3
theorem Zy:RowsOk Tryz.prog tys4:=⟨by kernel_rfl,QM⟩
def sSmA(g:Int→Fx→Int→Fx→Int→Fx)(pr:Int→Fx→Int→Fx→Int→Prop):List (FuncId×qU):=[(205,seAdd),(186,seWid),(183,wAlt g pr)]
def smK:LKeep:=⟨[1,4,5,6,7,8],[(1,2),(2,2),(4,4),(7,2)],10⟩
def clX(b o:Nat)(nw:Bool)(x:Fw):List (Nat×Nat×At):=[(b,o,.words nw x.xs),(b,o+1,.int .u64 x.e)]
def smSt(fn:At)(T S0 S1:Nat→Fx)(a:Nat×Bool×Bool):List (Nat×Tv)×List (Nat×Nat×At) :=
  ([(1,.sv (.one fn)),(4,.sv (.one (.ptr 1 0))),(5,.sv (.one (.ptr 2 0))),(6,.sv (.one (.ptr 4 0))),(7,.sv (.one (.ptr 7 0))),(8,iT (a.1:Nat))],
   [(1,0,.words true []),(1,1,.int .u64 0),(2,0,.words true []),(2,1,.int .u64 0)] ++ (clX 4 0 a.2.1 (fw (S0 a.1)) ++ (clX 4 2 a.2.2 (fw (S1 a.1)) ++ clX 7 0 false (fw (T a.1)))))
def altF(f:Int)(ys:List Int)(d w:Int):At:=.fn 183 [.ref [.int .i64 f],.ref [.words false ys,.int .u64 d],.ref [.int .i64 w]]
def smSt7(fn:At)(T S0 S1:Nat→Fx)(a:Nat×Bool×Bool):List (Nat×Tv)×List (Nat×Nat×At) :=
  ([(1,.sv (.one fn)),(4,.sv (.one (.ptr 1 0))),(5,.sv (.one (.ptr 2 0))),(6,.sv (.one (.ptr 4 0))),(7,.sv (.one (.ptr 7 0))),(8,iT (a.1:Nat))],
   [(1,0,.words true []),(1,1,.int .u64 0),(2,0,.words true []),(2,1,.int .u64 0)] ++ (clX 4 0 a.2.1 (fw (S0 (a.1+1))) ++ (clX 4 2 a.2.2 (fw (S1 (a.1+1))) ++ clX 7 0 false (fw (T a.1)))))
def smCut(fn:At)(T S0 S1:Nat→Fx)(K:Nat)(a:Nat×Bool×Bool)(n:Nat):Option LInv :=
  match Nat.beq 6 n with
  | true=>some (.cut smK (Nat×Bool×Bool) (smSt fn T S0 S1) (fun x=>x.1=a.1∧x.1<K))
  | false=>match Nat.beq 7 n with
    | true=>some (.cut smK (Nat×Bool×Bool) (smSt7 fn T S0 S1) (fun x=>x.1=a.1∧x.1<K))
    | false=>none
def smInv(fn:At)(T S0 S1:Nat→Fx)(K:Nat):Nat→Option LInv :=
  invAt 4 (.relI smK (Nat×Bool×Bool) (smSt fn T S0 S1) (fun a=>a.1≤K) (fun a=>K-a.1) (smCut fn T S0 S1 K))
theorem sumA_vc(g:Int→Fx→Int→Fx→Int→Fx)(pr:Int→Fx→Int→Fx→Int→Prop)(T S0 S1:Nat→Fx)(K:Nat)(t:Fw)(f d w:Int)(ys:List Int)(Q:Tv→Prop):qH ⟨tys4,sSmA g pr⟩ (smInv (altF f ys d w) T S0 S1 K) 0 Tryz.f181 [.agg (fwL false t),.one (altF f ys d w)] Q=(true=true∧(∃ (a:Nat×Bool×Bool),a.fst≤K∧Sg.mk [(1,Tv.sv (Sv.one (At.fn 183 [At.ref [At.int .i64 f],At.ref [At.words false ys,At.int .u64 d],At.ref [At.int .i64 w]]))),(4,Tv.sv (Sv.one (At.ptr ((0:Nat)+1) 0))),(5,Tv.sv (Sv.one (At.ptr ((0:Nat)+2) 0))),(6,Tv.sv (Sv.one (At.ptr ((3:Nat)+1) 0))),(7,Tv.sv (Sv.one (At.ptr ((6:Nat)+1) 0))),(8,iT 0)] [(1,0,At.words true []),(1,1,At.int .u64 0),(2,0,At.words true []),(2,1,At.int .u64 0),(4,0,At.words true []),(4,1,At.int .u64 0),(4,2,At.words true []),(4,3,At.int .u64 0),(7,0,At.words false t.xs),(7,1,At.int .u64 t.e)] 10=LKeep.at smK (smSt (altF f ys d w) T S0 S1 a))∧∀ (a:Nat×Bool×Bool),a.fst≤K→br (ltI 0 (↑(List.length (fw (T a.fst)).xs):Int)) (true=true∧∃ (x:Nat×Bool×Bool),(x.fst=a.fst∧x.fst<K)∧Sg.mk [(1,Tv.sv (Sv.one (At.fn 183 [At.ref [At.int .i64 f],At.ref [At.words false ys,At.int .u64 d],At.ref [At.int .i64 w]]))),(4,Tv.sv (Sv.one (At.ptr 1 0))),(5,Tv.sv (Sv.one (At.ptr 2 0))),(6,Tv.sv (Sv.one (At.ptr 4 0))),(7,Tv.sv (Sv.one (At.ptr 7 0))),(8,iT (↑a.fst:Int))] [(1,0,At.words true []),(1,1,At.int .u64 0),(2,0,At.words true []),(2,1,At.int .u64 0),(4,0,At.words a.snd.fst (fw (S0 a.fst)).xs),(4,1,At.int .u64 (fw (S0 a.fst)).e),(4,2,At.words a.snd.snd (fw (S1 a.fst)).xs),(4,3,At.int .u64 (fw (S1 a.fst)).e),(7,0,At.words false (fw (T a.fst)).xs),(7,1,At.int .u64 (fw (T a.fst)).e)] 10=LKeep.at smK (smSt (altF f ys d w) T S0 S1 x)) (br (eqI (↑a.fst:Int) 0) (true=true∧∃ (x:Nat×Bool×Bool),(x.fst=a.fst∧x.fst<K)∧Sg.mk [(1,Tv.sv (Sv.one (At.fn 183 [At.ref [At.int .i64 f],At.ref [At.words false ys,At.int .u64 d],At.ref [At.int .i64 w]]))),(4,Tv.sv (Sv.one (At.ptr 1 0))),(5,Tv.sv (Sv.one (At.ptr 2 0))),(6,Tv.sv (Sv.one (At.ptr 4 0))),(7,Tv.sv (Sv.one (At.ptr 7 0))),(8,iT (↑a.fst:Int))] [(1,0,At.words true []),(1,1,At.int .u64 0),(2,0,At.words true []),(2,1,At.int .u64 0),(4,0,At.words a.snd.fst (fw (S0 a.fst)).xs),(4,1,At.int .u64 (fw (S0 a.fst)).e),(4,2,At.words a.snd.snd (fw (S1 a.fst)).xs),(4,3,At.int .u64 (fw (S1 a.fst)).e),(7,0,At.words false (fw (T a.fst)).xs),(7,1,At.int .u64 (fw (T a.fst)).e)] 10=LKeep.at smK (smSt (altF f ys d w) T S0 S1 x)) (((0:Int)≤0∧(0:Int)<(↑(2:Nat):Int))∧(Fw.Ok (fw (S0 a.fst))∧(0:Int)≤IntKind.wrap IntKind.u64 ((fw (T a.fst)).e+4)∧IntKind.wrap IntKind.u64 ((fw (T a.fst)).e+4)≤1099511627776∧(fw (S0 a.fst)).xs=ws (val (fw (S0 a.fst)).xs))∧((0:Int)≤1∧(1:Int)<(↑(2:Nat):Int))∧(Fw.Ok (fw (S1 a.fst))∧(0:Int)≤IntKind.wrap IntKind.u64 ((fw (T a.fst)).e+4)∧IntKind.wrap IntKind.u64 ((fw (T a.fst)).e+4)≤1099511627776∧(fw (S1 a.fst)).xs=ws (val (fw (S1 a.fst)).xs))∧true=true∧Q (Tv.tup [Sv.agg (fwL false (fw (zN (Fw.f (fw (S0 a.fst))) (IntKind.wrap IntKind.u64 ((fw (T a.fst)).e+4))))),Sv.agg (fwL false (fw (zN (Fw.f (fw (S1 a.fst))) (IntKind.wrap IntKind.u64 ((fw (T a.fst)).e+4)))))])))∧∀ (x:Nat×Bool×Bool),x.fst=a.fst∧x.fst<K→((2:Int)≠0∧(2:Int)≠0∧br (eqI (Int.tmod (↑x.fst:Int) 2) 0) (((0:Int)≤Int.tmod (↑x.fst:Int) 2∧Int.tmod (↑x.fst:Int) 2<(↑(2:Nat):Int))∧(Fw.Ok (fw (S0 x.fst))∧Fw.Ok (fw (T x.fst)))∧br (eqI (Int.tmod (↑x.fst:Int) 2) 0) (((0:Int)≤Int.tmod (↑x.fst:Int) 2∧Int.tmod (↑x.fst:Int) 2<(↑(2:Nat):Int))∧true=true∧true=true∧∃ (x_1:Nat×Bool×Bool),(x_1.fst=a.fst∧x_1.fst<K)∧Sg.mk [(1,Tv.sv (Sv.one (At.fn 183 [At.ref [At.int .i64 f],At.ref [At.words false ys,At.int .u64 d],At.ref [At.int .i64 w]]))),(4,Tv.sv (Sv.one (At.ptr 1 0))),(5,Tv.sv (Sv.one (At.ptr 2 0))),(6,Tv.sv (Sv.one (At.ptr 4 0))),(7,Tv.sv (Sv.one (At.ptr 7 0))),(8,iT (↑x.fst:Int))] [(1,0,At.words true []),(1,1,At.int .u64 0),(2,0,At.words true []),(2,1,At.int .u64 0),(4,0,At.words false (fw (YY (Fw.f (fw (S0 x.fst))) (Fw.f (fw (T x.fst))))).xs),(4,1,At.int .u64 (fw (YY (Fw.f (fw (S0 x.fst))) (Fw.f (fw (T x.fst))))).e),(4,2,At.words x.snd.snd (fw (S1 x.fst)).xs),(4,3,At.int .u64 (fw (S1 x.fst)).e),(7,0,At.words false (fw (T x.fst)).xs),(7,1,At.int .u64 (fw (T x.fst)).e)] 10=LKeep.at smK (smSt7 (altF f ys d w) T S0 S1 x_1)) (((0:Int)≤Int.tmod (↑x.fst:Int) 2∧Int.tmod (↑x.fst:Int) 2<(↑(2:Nat):Int))∧true=true∧true=true∧∃ (x_1:Nat×Bool×Bool),(x_1.fst=a.fst∧x_1.fst<K)∧Sg.mk [(1,Tv.sv (Sv.one (At.fn 183 [At.ref [At.int .i64 f],At.ref [At.words false ys,At.int .u64 d],At.ref [At.int .i64 w]]))),(4,Tv.sv (Sv.one (At.ptr 1 0))),(5,Tv.sv (Sv.one (At.ptr 2 0))),(6,Tv.sv (Sv.one (At.ptr 4 0))),(7,Tv.sv (Sv.one (At.ptr 7 0))),(8,iT (↑x.fst:Int))] [(1,0,At.words true []),(1,1,At.int .u64 0),(2,0,At.words true []),(2,1,At.int .u64 0),(4,0,At.words x.snd.fst (fw (S0 x.fst)).xs),(4,1,At.int .u64 (fw (S0 x.fst)).e),(4,2,At.words false (fw (YY (Fw.f (fw (S0 x.fst))) (Fw.f (fw (T x.fst))))).xs),(4,3,At.int .u64 (fw (YY (Fw.f (fw (S0 x.fst))) (Fw.f (fw (T x.fst))))).e),(7,0,At.words false (fw (T x.fst)).xs),(7,1,At.int .u64 (fw (T x.fst)).e)] 10=LKeep.at smK (smSt7 (altF f ys d w) T S0 S1 x_1))) (((0:Int)≤Int.tmod (↑x.fst:Int) 2∧Int.tmod (↑x.fst:Int) 2<(↑(2:Nat):Int))∧(Fw.Ok (fw (S1 x.fst))∧Fw.Ok (fw (T x.fst)))∧br (eqI (Int.tmod (↑x.fst:Int) 2) 0) (((0:Int)≤Int.tmod (↑x.fst:Int) 2∧Int.tmod (↑x.fst:Int) 2<(↑(2:Nat):Int))∧true=true∧true=true∧∃ (x_1:Nat×Bool×Bool),(x_1.fst=a.fst∧x_1.fst<K)∧Sg.mk [(1,Tv.sv (Sv.one (At.fn 183 [At.ref [At.int .i64 f],At.ref [At.words false ys,At.int .u64 d],At.ref [At.int .i64 w]]))),(4,Tv.sv (Sv.one (At.ptr 1 0))),(5,Tv.sv (Sv.one (At.ptr 2 0))),(6,Tv.sv (Sv.one (At.ptr 4 0))),(7,Tv.sv (Sv.one (At.ptr 7 0))),(8,iT (↑x.fst:Int))] [(1,0,At.words true []),(1,1,At.int .u64 0),(2,0,At.words true []),(2,1,At.int .u64 0),(4,0,At.words false (fw (YY (Fw.f (fw (S1 x.fst))) (Fw.f (fw (T x.fst))))).xs),(4,1,At.int .u64 (fw (YY (Fw.f (fw (S1 x.fst))) (Fw.f (fw (T x.fst))))).e),(4,2,At.words x.snd.snd (fw (S1 x.fst)).xs),(4,3,At.int .u64 (fw (S1 x.fst)).e),(7,0,At.words false (fw (T x.fst)).xs),(7,1,At.int .u64 (fw (T x.fst)).e)] 10=LKeep.at smK (smSt7 (altF f ys d w) T S0 S1 x_1)) (((0:Int)≤Int.tmod (↑x.fst:Int) 2∧Int.tmod (↑x.fst:Int) 2<(↑(2:Nat):Int))∧true=true∧true=true∧∃ (x_1:Nat×Bool×Bool),(x_1.fst=a.fst∧x_1.fst<K)∧Sg.mk [(1,Tv.sv (Sv.one (At.fn 183 [At.ref [At.int .i64 f],At.ref [At.words false ys,At.int .u64 d],At.ref [At.int .i64 w]]))),(4,Tv.sv (Sv.one (At.ptr 1 0))),(5,Tv.sv (Sv.one (At.ptr 2 0))),(6,Tv.sv (Sv.one (At.ptr 4 0))),(7,Tv.sv (Sv.one (At.ptr 7 0))),(8,iT (↑x.fst:Int))] [(1,0,At.words true []),(1,1,At.int .u64 0),(2,0,At.words true []),(2,1,At.int .u64 0),(4,0,At.words x.snd.fst (fw (S0 x.fst)).xs),(4,1,At.int .u64 (fw (S0 x.fst)).e),(4,2,At.words false (fw (YY (Fw.f (fw (S1 x.fst))) (Fw.f (fw (T x.fst))))).xs),(4,3,At.int .u64 (fw (YY (Fw.f (fw (S1 x.fst))) (Fw.f (fw (T x.fst))))).e),(7,0,At.words false (fw (T x.fst)).xs),(7,1,At.int .u64 (fw (T x.fst)).e)] 10=LKeep.at smK (smSt7 (altF f ys d w) T S0 S1 x_1))))∧∀ (x:Nat×Bool×Bool),x.fst=a.fst∧x.fst<K→inR ((↑x.fst:Int)+1)∧((fw (T x.fst)).xs=ws (val (fw (T x.fst)).xs)∧ys=ws (val ys)∧pr f (Fx.mk (val ys) d) w (Fx.mk (val (fw (T x.fst)).xs) (fw (T x.fst)).e) ((↑x.fst:Int)+1))∧inR ((↑x.fst:Int)+1)∧true=true∧∃ (a':Nat×Bool×Bool),a'.fst≤K∧Sg.mk [(1,Tv.sv (Sv.one (At.fn 183 [At.ref [At.int .i64 f],At.ref [At.words false ys,At.int .u64 d],At.ref [At.int .i64 w]]))),(4,Tv.sv (Sv.one (At.ptr 1 0))),(5,Tv.sv (Sv.one (At.ptr 2 0))),(6,Tv.sv (Sv.one (At.ptr 4 0))),(7,Tv.sv (Sv.one (At.ptr 7 0))),(8,iT ((↑x.fst:Int)+1))] [(1,0,At.words true []),(1,1,At.int .u64 0),(2,0,At.words true []),(2,1,At.int .u64 0),(4,0,At.words x.snd.fst (fw (S0 (x.fst+1))).xs),(4,1,At.int .u64 (fw (S0 (x.fst+1))).e),(4,2,At.words x.snd.snd (fw (S1 (x.fst+1))).xs),(4,3,At.int .u64 (fw (S1 (x.fst+1))).e),(7,0,At.words false (fw (g f (Fx.mk (val ys) d) w (Fx.mk (val (fw (T x.fst)).xs) (fw (T x.fst)).e) ((↑x.fst:Int)+1))).xs),(7,1,At.int .u64 (fw (g f (Fx.mk (val ys) d) w (Fx.mk (val (fw (T x.fst)).xs) (fw (T x.fst)).e) ((↑x.fst:Int)+1))).e)] 10=LKeep.at smK (smSt (altF f ys d w) T S0 S1 a')∧K-a'.fst<K-a.fst):=by kernel_rfl
theorem sSmA_ok:SpecsOk Tryz.prog (sSmA stepA preA):=⟨seAdd_ok,seWid_ok,cAlt_ok,trivial⟩
def QS(f:Int)(sq:Fx)(w:Int)(t:Fx)(b:Nat):Fx:=sumR (stepA f sq w) t b
def altSumOk(f:Int)(sq:Fx)(w:Int)(t:Fx):Prop:=SumOk (stepA f sq w) (preA f sq w) t
def seSumA:qU:=fun l=>match l with
  | [.agg [.words false xs,.int .u64 e],.one (.fn n [.ref [.int .i64 f],.ref [.words false ys,.int .u64 d],.ref [.int .i64 w]])] =>
    (some (n=183∧xs=ws (val xs)∧ys=ws (val ys)∧altSumOk f ⟨val ys,d⟩ w ⟨val xs,e⟩),
      .tup [.agg (fwL false (fw (QS f ⟨val ys,d⟩ w ⟨val xs,e⟩ 0))),.agg (fwL false (fw (QS f ⟨val ys,d⟩ w ⟨val xs,e⟩ 1)))])
  | _=>ZL
theorem tmod2(k:Nat):Int.tmod (k:Int) 2=((k % 2:Nat):Int):=by rw [Int.tmod_eq_emod_of_nonneg (by omega)];omega
theorem seSumA_ok:SpecOk Tryz.prog 181 seSumA :=
  specOk_pat (qO Zy sSmA_ok) mixed Tryz.func181 rfl (by decide) 2 (by decide) fun l p t hwf e hp=>by
    unfold seSumA at e
    split at e
    · rename_i xs e0 n f ys d w
      cases e
      obtain ⟨hn,hx,hy,c1,c2,c3,c4,c5,c6⟩:n=183∧xs=ws (val xs)∧ys=ws (val ys)∧SumOk (stepA f ⟨val ys,d⟩ w) (preA f ⟨val ys,d⟩ w) ⟨val xs,e0⟩:=hp
      subst hn
      unfold QS sumR
      generalize hg:stepA f ⟨val ys,d⟩ w=g at *
      generalize hpr:preA f ⟨val ys,d⟩ w=pr at *
      generalize hK:stopK g ⟨val xs,e0⟩=K at *
      generalize ht:(⟨val xs,e0⟩:Fx)=t at *
      have v0:∀ k,k≤K→val (ws (Tm g t k).a)=(Tm g t k).a:=fun k hk=>qN (c6 k hk).1.1.1
      have l0:∀ k,k≤K→(ltI 0 ((ws (Tm g t k).a).length:Nat)=decide ((Tm g t k).a≠0)):=fun k hk=>YV (c6 k hk).1.1.1
      refine ⟨Nat.le_refl 2,smInv (altF f ys d w) (Tm g t) (Sm2 g t 0) (Sm2 g t 1) K,0,(sumA_vc stepA preA (Tm g t) (Sm2 g t 0) (Sm2 g t 1) K ⟨xs,e0⟩ f d w ys _).mpr ?_⟩
      have ew:∀ z:Fx,(fw z).e=z.e:=fun _=>rfl
      have ex:∀ z:Fx,(fw z).xs=ws z.a:=fun _=>rfl
      have w4:∀ k,k≤K→IntKind.u64.wrap ((Tm g t k).e+4)=(Tm g t k).e+4:=fun k hk=>ZY ⟨by have:=(c6 k hk).1.1.2.2;omega,by have:=(c6 k hk).1.1.2.2;omega⟩
      have fwt:∀ k,k≤K→(fw (Tm g t k)).f=Tm g t k:=fun k hk=>XD (c6 k hk).1.1.1
      have fw0:∀ k,k≤K→(fw (Sm2 g t 0 k)).f=Sm2 g t 0 k:=fun k hk=>XD (c6 k hk).2.1.1
      have fw1:∀ k,k≤K→(fw (Sm2 g t 1 k)).f=Sm2 g t 1 k:=fun k hk=>XD (c6 k hk).2.2.1
      refine ⟨rfl,⟨(0,true,true),Nat.zero_le _,?_⟩,fun a ha=>⟨qB (fun h=>⟨rfl,a,⟨rfl,?_⟩,rfl⟩) fun h=>qB (fun h'=>⟨rfl,a,⟨rfl,?_⟩,rfl⟩) fun h'=>?_,fun x ⟨hxa,hx⟩=>⟨⟨by decide,by decide,?_⟩,fun y ⟨hya,hy0⟩=>?_⟩⟩⟩
      · have z:smSt (altF f ys d w) (Tm g t) (Sm2 g t 0) (Sm2 g t 1) (0,true,true)=([(1,.sv (.one (altF f ys d w))),(4,.sv (.one (.ptr 1 0))),(5,.sv (.one (.ptr 2 0))),(6,.sv (.one (.ptr 4 0))),(7,.sv (.one (.ptr 7 0))),(8,iT 0)],
            [(1,0,.words true []),(1,1,.int .u64 0),(2,0,.words true []),(2,1,.int .u64 0),(4,0,.words true []),(4,1,.int .u64 0),(4,2,.words true []),(4,3,.int .u64 0),(7,0,.words false xs),(7,1,.int .u64 e0)]):=by
          have q:Tm g t 0=⟨val xs,e0⟩:=ht.symm
          have q0:fw (Sm2 g t 0 0)=⟨[],0⟩:=by show (⟨ws 0,0⟩:Fw)=_;rw [Zk]
          have q1:fw (Sm2 g t 1 0)=⟨[],0⟩:=by show (⟨ws 0,0⟩:Fw)=_;rw [Zk]
          have q2:fw (Tm g t 0)=⟨xs,e0⟩:=by rw [q];show (⟨ws (val xs),e0⟩:Fw)=_;rw [←hx]
          unfold smSt
          rw [q0,q1,q2];rfl
        unfold LKeep.at
        rw [z];rfl
      · have h:=(l0 a.1 ha).symm.trans h
        rcases Nat.lt_or_ge a.1 K with k | k
        · exact k
        · rw [show a.1=K by omega,c3] at h;simp at h
      · have:=zX.1 h';omega
      · have h:=(l0 a.1 ha).symm.trans h
        have h':=qR.1 h'
        have hk:a.1=K:=by
          rcases Nat.lt_or_ge a.1 K with k | k
          · have:=c4 a.1 (by omega) k;simp at h;exact absurd h this
          · omega
        obtain ⟨o1,o2,o3⟩:=c6 K (Nat.le_refl _)
        rw [hk,ew,w4 K (Nat.le_refl _),fw0 K (Nat.le_refl _),fw1 K (Nat.le_refl _),ex,ex,qN o2.1,qN o3.1]
        have p0:=o1.1.2.2
        have p1:=o1.2
        exact ⟨⟨by omega,by omega⟩,⟨o2.w,by omega,by omega,rfl⟩,⟨by omega,by omega⟩,⟨o3.w,by omega,by omega,rfl⟩,rfl,.inl rfl⟩
      · obtain ⟨o1,o2,o3⟩:=c6 x.1 (by omega)
        have i0:(0:Int)≤Int.tmod (x.1:Int) 2∧Int.tmod (x.1:Int) 2<((2:Nat):Int):=by rw [tmod2];omega
        rw [fw0 x.1 (by omega),fw1 x.1 (by omega),fwt x.1 (by omega)]
        refine qB (fun h=>⟨i0,⟨o2.w,o1.1.w⟩,qB (fun h'=>⟨i0,rfl,rfl,(x.1,false,x.2.2),⟨hxa,hx⟩,?_⟩) fun h'=>?_⟩) fun h=>⟨i0,⟨o3.w,o1.1.w⟩,qB (fun h'=>?_) fun h'=>⟨i0,rfl,rfl,(x.1,x.2.1,false),⟨hxa,hx⟩,?_⟩⟩
        · have h2:=zX.1 h
          rw [tmod2] at h2
          have e1:Sm2 g t 0 (x.1+1)=YY (Sm2 g t 0 x.1) (Tm g t x.1):=if_pos (by omega)
          have e2:Sm2 g t 1 (x.1+1)=Sm2 g t 1 x.1:=if_neg (by omega)
          unfold LKeep.at smSt7
          rw [e1,e2];rfl
        · rw [h] at h';cases h'
        · rw [h] at h';cases h'
        · have h2:=qR.1 h
          rw [tmod2] at h2
          have e1:Sm2 g t 1 (x.1+1)=YY (Sm2 g t 1 x.1) (Tm g t x.1):=if_pos (by omega)
          have e2:Sm2 g t 0 (x.1+1)=Sm2 g t 0 x.1:=if_neg (by omega)
          unfold LKeep.at smSt7
          rw [e1,e2];rfl
      · rw [ex,ew,v0 y.1 (by omega),hg,hpr]
        refine ⟨⟨by omega,by omega⟩,⟨rfl,hy,c5 y.1 hy0⟩,⟨by omega,by omega⟩,rfl,(y.1+1,y.2.1,y.2.2),hy0,?_,by show K-(y.1+1)<K-a.1;omega⟩
        rfl
    · cases e;exact hp.elim
theorem findK_spec{P:Nat→Bool}:∀ (n k j:Nat),k≤j→j<k+n→P j=true→k≤findK P n k∧findK P n k≤j∧P (findK P n k)=true∧∀ i,k≤i→i<findK P n k→P i=false
  | 0,k,j,h1,h2,_=>by omega
  | n+1,k,j,h1,h2,h3=>by
    unfold findK
    cases hk:P k with
    | true=>exact ⟨Nat.le_refl _,h1,hk,fun i a b=>by have b:i<k:=b;omega⟩
    | false =>
      have hne:k≠j:=fun e=>by rw [e,h3] at hk;cases hk
      obtain ⟨a,b,c,d⟩:=findK_spec n (k+1) j (by omega) (by omega) h3
      show k≤findK P n (k+1)∧findK P n (k+1)≤j∧P (findK P n (k+1))=true∧∀ i,k≤i→i<findK P n (k+1)→P i=false
      refine ⟨by omega,b,c,fun i x y=>?_⟩
      by_cases e:i=k
      · rw [e];exact hk
      · exact d i (by omega) y
structure Alt (f:Nat) (sq:Fx) (w:Int) (x:Rat):Prop where
  f1:1≤f
  f2:f≤2
  w0:32≤w
  w1:w≤65536
  hsq:InF w sq x
  he:sq.e≤16
  x0:0≤x
  x1:x≤1
abbrev ZS(f:Nat)(sq:Fx)(w:Int):Nat→Fx:=Tm (stepA f sq w) ⟨2^w.toNat,0⟩
theorem Y3{m a b:Int}(h:0≤m)(ha:0<a)(hab:a≤b):m/b≤m/a:=by
  refine Int.le_ediv_of_mul_le ha ?_
  have q:=Int.ediv_nonneg h (show 0≤b by omega)
  have:=imL hab q
  have:=Int.ediv_mul_le m (show b≠0 by omega)
  omega
section
variable {f:Nat} {sq:Fx} {w:Int} {x:Rat}
theorem rat_nat(n:Nat):((n:Int):Rat)=(n:Rat):=Rat.intCast_natCast n
theorem InF.one{w:Int}(h:0≤w):InF w ⟨2^w.toNat,0⟩ 1:=by
  have p:=two_pow_pos w.toNat
  have e:=zU h
  refine ⟨show 0≤2^w.toNat by omega,Int.le_refl _,?_,?_⟩
  · show ((2^w.toNat:Int):Rat)≤_;rw [←e];grind
  · show _≤((2^w.toNat+0:Int):Rat);rw [Int.add_zero,←e];grind
theorem stepA_eq(f k:Nat)(sq:Fx)(w:Int)(t:Fx):stepA f sq w t ((k+1:Nat):Int)=qE (qE (Xb t sq w) ((f+2*k:Nat):Int)) ((f+2*k+1:Nat):Int):=by
  unfold stepA
  rw [show (f:Int)+2*(((k+1:Nat):Int)-1)=((f+2*k:Nat):Int) by omega,show ((f+2*k:Nat):Int)+1=((f+2*k+1:Nat):Int) by omega]
theorem Zz(h:Alt f sq w x):∀ k,InF w (ZS f sq w k) (tmf f x k)
  | 0=>InF.one (by have:=h.w0;omega)
  | k+1=>by
    have ih:=Zz h k
    show InF w (stepA f sq w (ZS f sq w k) ((k+1:Nat):Int)) _
    rw [stepA_eq,tmf,←rat_nat,←rat_nat]
    have f1:=h.f1
    exact ((ih.mul (by have:=h.w0;omega) h.hsq).short (by omega)).short (by omega)
theorem p2_32{w:Int}(h:32≤w):(4294967296:Int)≤2^w.toNat:=by
  have:=Qf (j:=32) (k:=w.toNat) (by omega)
  have e:(2:Int)^32=4294967296:=rfl
  omega
theorem InF.le_one{w:Int}{z:Fx}{r:Rat}(hw:0≤w)(h:InF w z r)(hr:r≤1):z.a≤2^w.toNat:=by
  have e:=zU hw
  have p:=qL w
  have h1:=h.2.2.1
  have h2:=rmR hr (rlL p)
  rw [Rat.one_mul] at h2
  exact zG.1 (by rw [←e];grind)
theorem tmf_le1(f1:1≤f)(x0:0≤x)(x1:x≤1)(k:Nat):tmf f x k≤1:=by
  have h:=tmf_le f1 x0 x1 k
  have:=hf_le (Nat.zero_le k)
  rw [hf_zero] at this
  grind
theorem altT_e(h:Alt f sq w x):∀ k,(ZS f sq w k).e≤16
  | 0=>by show (0:Int)≤16;omega
  | k+1=>by
    have ih:=altT_e h k
    have hin:=Zz h k
    have w0:=h.w0
    have P:=p2_32 w0
    have he:=h.he
    have f1:=h.f1
    show (stepA f sq w (ZS f sq w k) ((k+1:Nat):Int)).e≤16
    rw [stepA_eq]
    have a1:=hin.le_one (by omega) (tmf_le1 h.f1 h.x0 h.x1 k)
    have a2:=h.hsq.le_one (by omega) h.x1
    have hs:(ZS f sq w k).e*sq.e≤2^w.toNat:=by
      have:=Int.mul_le_mul ih he h.hsq.2.1 (by omega)
      omega
    have mm:=mulF_e (w:=w) hin.2.1 h.hsq.2.1 a1 a2 hs
    show ((Xb (ZS f sq w k) sq w).e/((f+2*k:Nat):Int)+2)/((f+2*k+1:Nat):Int)+2≤16
    have m0:0≤(Xb (ZS f sq w k) sq w).e:=(hin.mul (by omega) h.hsq).2.1
    generalize (Xb (ZS f sq w k) sq w).e=m at *
    by_cases hk:k=0
    · subst hk
      have hf:((f+2*0:Nat):Int)=1∨((f+2*0:Nat):Int)=2:=by have:=h.f2;omega
      have e0:(ZS f sq w 0).e=0:=rfl
      rw [e0] at mm
      rcases hf with hf | hf
      · rw [hf,show ((f+2*0+1:Nat):Int)=2 by omega];omega
      · rw [hf,show ((f+2*0+1:Nat):Int)=3 by omega];omega
    · have d1:m/((f+2*k:Nat):Int)≤m/3:=Y3 (a:=3) (b:=((f+2*k:Nat):Int)) m0 (by omega) (by omega)
      have q0:=Int.ediv_nonneg m0 (show (0:Int)≤((f+2*k:Nat):Int) by omega)
      have d2:(m/((f+2*k:Nat):Int)+2)/((f+2*k+1:Nat):Int)≤(m/((f+2*k:Nat):Int)+2)/4:=Y3 (a:=4) (b:=((f+2*k+1:Nat):Int)) (by omega) (by omega) (by omega)
      omega
theorem InF.a0{z:Fx}{r:Rat}(h:InF w z r):0≤z.a:=h.1
theorem InF.e0{z:Fx}{r:Rat}(h:InF w z r):0≤z.e:=h.2.1
theorem altT_half(h:Alt f sq w x)(k:Nat):2*(ZS f sq w (k+1)).a≤(ZS f sq w k).a:=by
  have hin:=Zz h k
  have w0:=h.w0
  have f1:=h.f1
  have a2:=h.hsq.le_one (by omega) h.x1
  have p:=two_pow_pos w.toNat
  show 2*(stepA f sq w (ZS f sq w k) ((k+1:Nat):Int)).a≤_
  rw [stepA_eq]
  show 2*((ZS f sq w k).a*sq.a/2^w.toNat/((f+2*k:Nat):Int)/((f+2*k+1:Nat):Int))≤_
  have m0:=Int.mul_nonneg hin.a0 h.hsq.a0
  have q0:=Int.ediv_nonneg m0 (show (0:Int)≤2^w.toNat by omega)
  have q1:(ZS f sq w k).a*sq.a/2^w.toNat≤(ZS f sq w k).a:=Int.ediv_le_of_le_mul p (imL a2 hin.a0)
  generalize (ZS f sq w k).a*sq.a/2^w.toNat=q at *
  have d1:q/((f+2*k:Nat):Int)≤q:=Int.ediv_le_self _ q0
  have d0:=Int.ediv_nonneg q0 (show (0:Int)≤((f+2*k:Nat):Int) by omega)
  have d2:q/((f+2*k:Nat):Int)/((f+2*k+1:Nat):Int)≤q/((f+2*k:Nat):Int)/2:=Y3 (a:=2) (b:=((f+2*k+1:Nat):Int)) d0 (by omega) (by omega)
  omega
theorem altT_small(h:Alt f sq w x)(k:Nat):(ZS f sq w k).a*2^k≤2^w.toNat:=by
  induction k with
  | zero=>show (2:Int)^w.toNat*2^0≤_;omega
  | succ k ih =>
    have:=altT_half h k
    have p:=two_pow_pos k
    have e:(ZS f sq w (k+1)).a*2^(k+1)=(2*(ZS f sq w (k+1)).a)*2^k:=by rw [Int.pow_succ,Int.mul_comm (2^k),←Int.mul_assoc,Int.mul_comm _ 2]
    rw [e]
    exact Int.le_trans (imR this (by omega)) ih
theorem altT_end(h:Alt f sq w x):(ZS f sq w (w.toNat+1)).a=0:=by
  have h1:=altT_small h (w.toNat+1)
  have h0:=(Zz h (w.toNat+1)).a0
  have p:=two_pow_pos w.toNat
  rw [Int.pow_succ] at h1
  by_cases e:(ZS f sq w (w.toNat+1)).a=0
  · exact e
  · have:=imR (show 1≤(ZS f sq w (w.toNat+1)).a by omega) (show (0:Int)≤2^w.toNat*2 by omega)
    omega
abbrev altK(f:Nat)(sq:Fx)(w:Int):Nat:=stopK (stepA f sq w) ⟨2^w.toNat,0⟩
theorem Xc(h:Alt f sq w x):1≤altK f sq w∧(altK f sq w:Int)≤w+1∧(ZS f sq w (altK f sq w)).a=0∧∀ k,1≤k→k<altK f sq w→(ZS f sq w k).a≠0:=by
  have w0:=h.w0
  have w1:=h.w1
  obtain ⟨a,b,c,d⟩:=findK_spec (P:=fun k=>decide ((ZS f sq w k).a=0)) 1048576 1 (w.toNat+1) (by omega) (by omega) (by simpa using altT_end h)
  refine ⟨a,?_,of_decide_eq_true c,fun k h1 h2=>of_decide_eq_false (d k h1 h2)⟩
  have b:altK f sq w≤w.toNat+1:=b
  omega
abbrev ZT(f:Nat)(sq:Fx)(w:Int)(b:Nat):Nat→Fx:=Sm2 (stepA f sq w) ⟨2^w.toNat,0⟩ b
theorem InF.zero(w:Int):InF w ⟨0,0⟩ 0:=⟨Int.le_refl _,Int.le_refl _,by rw [Rat.zero_mul];exact Rat.le_refl,by rw [Rat.zero_mul];exact Rat.le_refl⟩
theorem altM_in(h:Alt f sq w x)(b:Nat):∀ k,InF w (ZT f sq w b k) (parS b f x k)
  | 0=>InF.zero w
  | k+1=>by
    have ih:=altM_in h b k
    have e:parS b f x (k+1)=parS b f x k+(if k % 2=b then tmf f x k else 0):=rfl
    rw [e]
    show InF w (if k % 2=b then YY (ZT f sq w b k) (ZS f sq w k) else ZT f sq w b k) _
    split
    · exact ih.add (Zz h k)
    · rw [Rat.add_zero];exact ih
theorem altM_e(h:Alt f sq w x)(b:Nat):∀ k,(ZT f sq w b k).e≤16*(k:Int)
  | 0=>by show (0:Int)≤_;omega
  | k+1=>by
    have ih:=altM_e h b k
    have:=altT_e h k
    show (if k % 2=b then YY (ZT f sq w b k) (ZS f sq w k) else ZT f sq w b k).e≤_
    split
    · show (ZT f sq w b k).e+(ZS f sq w k).e≤_;omega
    · omega
theorem altM_a(h:Alt f sq w x)(b:Nat):∀ k,(ZT f sq w b k).a+2*(ZS f sq w k).a≤2*2^w.toNat
  | 0=>by show (0:Int)+2*2^w.toNat≤_;omega
  | k+1=>by
    have ih:=altM_a h b k
    have:=altT_half h k
    have t0:=(Zz h k).a0
    show (if k % 2=b then YY (ZT f sq w b k) (ZS f sq w k) else ZT f sq w b k).a+_≤_
    split
    · show (ZT f sq w b k).a+(ZS f sq w k).a+_≤_;omega
    · omega
theorem altT_q(h:Alt f sq w x)(n:Nat):4*(ZS f sq w (n+1+1)).a≤(ZS f sq w (n+1)).a:=by
  have hin:=Zz h (n+1)
  have w0:=h.w0
  have f1:=h.f1
  have a2:=h.hsq.le_one (by omega) h.x1
  have p:=two_pow_pos w.toNat
  show 4*(stepA f sq w (ZS f sq w (n+1)) ((n+1+1:Nat):Int)).a≤_
  rw [stepA_eq]
  show 4*((ZS f sq w (n+1)).a*sq.a/2^w.toNat/((f+2*(n+1):Nat):Int)/((f+2*(n+1)+1:Nat):Int))≤_
  have m0:=Int.mul_nonneg hin.a0 h.hsq.a0
  have q0:=Int.ediv_nonneg m0 (show (0:Int)≤2^w.toNat by omega)
  have q1:(ZS f sq w (n+1)).a*sq.a/2^w.toNat≤(ZS f sq w (n+1)).a:=Int.ediv_le_of_le_mul p (imL a2 hin.a0)
  generalize (ZS f sq w (n+1)).a*sq.a/2^w.toNat=q at *
  have d1:q/((f+2*(n+1):Nat):Int)≤q:=Int.ediv_le_self _ q0
  have d0:=Int.ediv_nonneg q0 (show (0:Int)≤((f+2*(n+1):Nat):Int) by omega)
  have d2:q/((f+2*(n+1):Nat):Int)/((f+2*(n+1)+1:Nat):Int)≤q/((f+2*(n+1):Nat):Int)/4:=Y3 (a:=4) (b:=((f+2*(n+1)+1:Nat):Int)) d0 (by omega) (by omega)
  omega
theorem altR_le(h:Alt f sq w x){K:Nat}(hK:1≤K)(hK1:(K:Int)≤w+2):2^w.toNat≤(ZT f sq w 0 K).a∧3*(ZT f sq w 1 K).a≤2*2^w.toNat:=by
  constructor
  · -- the first term lies in it
    have key:∀ n,2^w.toNat≤(ZT f sq w 0 (n+1)).a:=by
      intro n
      induction n with
      | zero=>show (2:Int)^w.toNat≤(YY ⟨0,0⟩ ⟨2^w.toNat,0⟩).a;show (2:Int)^w.toNat≤0+2^w.toNat;omega
      | succ n ih =>
        have t0:=(Zz h (n+1)).a0
        show _≤(if (n+1) % 2=0 then YY (ZT f sq w 0 (n+1)) (ZS f sq w (n+1)) else ZT f sq w 0 (n+1)).a
        split
        · show _≤(ZT f sq w 0 (n+1)).a+(ZS f sq w (n+1)).a;omega
        · exact ih
    obtain ⟨n,rfl⟩:∃ n,K=n+1:=⟨K-1,by omega⟩
    exact key n
  · -- the second term is at most a half,the others fall by fourths
    have t1:=altT_half h 0
    have key:∀ n,3*(ZT f sq w 1 (n+1)).a+4*(ZS f sq w (n+1)).a≤2*2^w.toNat:=by
      intro n
      induction n with
      | zero =>
        show 3*(0:Int)+_≤_
        have e:(ZS f sq w 0).a=2^w.toNat:=rfl
        omega
      | succ n ih =>
        have t0:=(Zz h (n+1+1)).a0
        have t2:=altT_q h n
        show 3*(if (n+1) % 2=1 then YY (ZT f sq w 1 (n+1)) (ZS f sq w (n+1)) else ZT f sq w 1 (n+1)).a+_≤_
        split
        · show 3*((ZT f sq w 1 (n+1)).a+(ZS f sq w (n+1)).a)+_≤_;omega
        · omega
    obtain ⟨n,rfl⟩:∃ n,K=n+1:=⟨K-1,by omega⟩
    have:=key n
    have:=(Zz h (n+1)).a0
    omega
def altD(f:Nat)(sq:Fx)(w:Int)(K:Nat)(c:Int):Fx:=subF (zN (ZT f sq w 0 K) c) (zN (ZT f sq w 1 K) c)
theorem altD_bd(h:Alt f sq w x){K:Nat}(hK:1≤K)(hK1:(K:Int)≤w+2){c:Int}(c0:0≤c)(c1:c≤32) :
    2^w.toNat≤4*(altD f sq w K c).a∧0≤(altD f sq w K c).e∧(altD f sq w K c).e≤4194304∧(altD f sq w K c).a+(altD f sq w K c).e≤3*2^w.toNat:=by
  obtain ⟨h1,h2⟩:=altR_le h hK hK1
  have w0:=h.w0
  have w1:=h.w1
  have P:=p2_32 w0
  have e0:=altM_e h 0 K
  have e1:=altM_e h 1 K
  have z0:=(altM_in h 0 K).e0
  have z1:=(altM_in h 1 K).e0
  have y1:=(altM_in h 1 K).a0
  have t0:=(Zz h K).a0
  have a0:=altM_a h 0 K
  have ea:(altD f sq w K c).a=(ZT f sq w 0 K).a-((ZT f sq w 1 K).a+((ZT f sq w 1 K).e+c)):=rfl
  have ee:(altD f sq w K c).e=(ZT f sq w 0 K).e+c+((ZT f sq w 1 K).e+c):=rfl
  rw [ea,ee]
  refine ⟨by omega,by omega,by omega,by omega⟩
theorem div_p2(n:Int)(w:Int):(n:Rat)*p2 (-w)*p2 w=(n:Rat):=by rw [Rat.mul_assoc,p2_neg,Rat.mul_one]
theorem le_div_p2{n w:Int}{r:Rat}(h:(n:Rat)≤r*p2 w):(n:Rat)*p2 (-w)≤r:=by
  rw [←Qo w,div_p2];exact h
theorem div_p2_le{n w:Int}{r:Rat}(h:r*p2 w≤(n:Rat)):r≤(n:Rat)*p2 (-w):=by
  rw [←Qo w,div_p2];exact h
theorem altD_enc(h:Alt f sq w x){K:Nat}(hK:1≤K){c:Int}(hc:12*(tmf f x K*p2 w)≤11*(c:Rat)) :
    Enc (altS f x) (((altD f sq w K c).a:Rat)*p2 (-w)) ((((altD f sq w K c).a+(altD f sq w K c).e:Int):Rat)*p2 (-w)):=by
  obtain ⟨_,_,p1,p2'⟩:=altM_in h 0 K
  obtain ⟨_,_,q1,q2⟩:=altM_in h 1 K
  have pw:=qL (-w)
  have hr:12*tmf f x K≤11*((c:Rat)*p2 (-w)):=by
    rw [←Qo w]
    have e1:12*tmf f x K*p2 w=12*(tmf f x K*p2 w):=by grind
    have e2:11*((c:Rat)*p2 (-w))*p2 w=11*(c:Rat):=by rw [Rat.mul_assoc,div_p2]
    rw [e1,e2];exact hc
  have H:=altS_enc h.f1 h.x0 h.x1 hK (le_div_p2 p1) (div_p2_le p2') (le_div_p2 q1) (div_p2_le q2) hr
  have ea:(altD f sq w K c).a=(ZT f sq w 0 K).a-((ZT f sq w 1 K).a+((ZT f sq w 1 K).e+c)):=rfl
  have ee:(altD f sq w K c).a+(altD f sq w K c).e=(ZT f sq w 0 K).a+(ZT f sq w 0 K).e+c-(ZT f sq w 1 K).a:=by
    show (ZT f sq w 0 K).a-((ZT f sq w 1 K).a+((ZT f sq w 1 K).e+c))+((ZT f sq w 0 K).e+c+((ZT f sq w 1 K).e+c))=_
    omega
  rw [ee,ea]
  refine H.wide ?_ ?_
  · rw [Rat.intCast_sub,rcA,rcA,rcA];grind
  · rw [Rat.intCast_sub,rcA,rcA];grind
theorem tmf_end(h:Alt f sq w x):tmf f x (altK f sq w)*p2 w≤16:=by
  obtain ⟨_,_,h3,_⟩:=Xc h
  have h4:=(Zz h (altK f sq w)).2.2.2
  rw [h3,Int.zero_add] at h4
  have:=zG.2 (altT_e h (altK f sq w))
  have e:((16:Int):Rat)=16:=rfl
  grind
theorem QN{n:Int}{k:Nat}(h:n≤2^k):blen n≤k+1:=QW (Int.lt_of_le_of_lt h (two_pow_lt (by omega)))
theorem altT_ok(h:Alt f sq w x)(k:Nat):(ZS f sq w k).Ok∧(ZS f sq w k).e≤549755813888:=by
  have hin:=Zz h k
  have he:=altT_e h k
  have w0:=h.w0
  have w1:=h.w1
  have a1:=hin.le_one (by omega) (tmf_le1 h.f1 h.x0 h.x1 k)
  have:=QN a1
  exact ⟨⟨hin.a0,by omega,hin.e0,by omega⟩,by omega⟩
theorem altM_ok(h:Alt f sq w x)(b:Nat){k:Nat}(hk:(k:Int)≤w+2):(ZT f sq w b k).Ok:=by
  have hin:=altM_in h b k
  have he:=altM_e h b k
  have ha:=altM_a h b k
  have t0:=(Zz h k).a0
  have w0:=h.w0
  have w1:=h.w1
  have:blen (ZT f sq w b k).a≤w.toNat+1+1:=QN (by rw [Int.pow_succ];omega)
  exact ⟨hin.a0,by omega,hin.e0,by omega⟩
theorem altSum_ok(h:Alt f sq w x)(hs:sq.Ok):SumOk (stepA f sq w) (preA f sq w) ⟨2^w.toNat,0⟩:=by
  obtain ⟨k1,k2,k3,k4⟩:=Xc h
  have w0:=h.w0
  have w1:=h.w1
  have f1:=h.f1
  have f2:=h.f2
  refine ⟨k1,by have k2:((stopK (stepA f sq w) ⟨2^w.toNat,0⟩:Nat):Int)≤w+1:=k2;omega,k3,k4,fun k hk=>?_,fun k hk=>⟨altT_ok h k,altM_ok h 0 ?_,altM_ok h 1 ?_⟩⟩
  · have hin:=Zz h k
    have he:=altT_e h k
    have hh:=h.he
    have P:=p2_32 w0
    have a1:=hin.le_one (by omega) (tmf_le1 h.f1 h.x0 h.x1 k)
    have a2:=h.hsq.le_one (by omega) h.x1
    have hs':(ZS f sq w k).e*sq.e≤2^w.toNat:=by
      have:=Int.mul_le_mul he hh h.hsq.2.1 (by omega)
      omega
    have m:=mulF_e (w:=w) hin.e0 h.hsq.e0 a1 a2 hs'
    have k2:((stopK (stepA f sq w) ⟨2^w.toNat,0⟩:Nat):Int)≤w+1:=k2
    exact ⟨(altT_ok h k).1,hs,by omega,by omega,by show (Xb (ZS f sq w k) sq w).e≤_;omega,by omega,by omega,by omega,by omega⟩
  · have k2:((stopK (stepA f sq w) ⟨2^w.toNat,0⟩:Nat):Int)≤w+1:=k2;omega
  · have k2:((stopK (stepA f sq w) ⟨2^w.toNat,0⟩:Nat):Int)≤w+1:=k2;omega
end
theorem log2_up:∀ (n:Nat) (e:Int) (q:Rat),p2 e≤q→q<p2 (e+(n:Int)+1)→∃ k:Int,p2 k≤q∧q<p2 (k+1)
  | 0,e,q,h1,h2=>⟨e,h1,by rwa [show e+((0:Nat):Int)+1=e+1 by omega] at h2⟩
  | n+1,e,q,h1,h2=>by
    rcases (show q<p2 (e+1)∨p2 (e+1)≤q by grind) with h | h
    · exact ⟨e,h1,h⟩
    · exact log2_up n (e+1) q h (by rwa [show e+1+(n:Int)+1=e+((n+1:Nat):Int)+1 by omega])
theorem log2_ex{q:Rat}(h:0<q):∃ k:Int,p2 k≤q∧q<p2 (k+1):=by
  have hn:0<q.num:=by have:=(Rat.lt_iff 0 q).1 h;simpa using this
  have hd:(0:Rat)<((q.den:Int):Rat):=cast_ne (by have:=q.den_pos;omega)
  have e:q*((q.den:Int):Rat)=(q.num:Rat):=by
    have h1:=Rat.mkRat_self q
    rw [Rat.mkRat_eq_div,Rat.div_def,←Rat.intCast_natCast] at h1
    have h2:=Rat.inv_mul_cancel ((q.den:Int):Rat) (by grind)
    conv=>lhs;lhs;rw [←h1]
    rw [Rat.mul_assoc,h2,Rat.mul_one]
  have a1:=amt_lt (m:=q.num) (e:=0)
  have a2:=amt_ge (m:=q.num) (e:=0) hn
  have b1:=amt_lt (m:=(q.den:Int)) (e:=0)
  rw [ZX,Rat.mul_one] at a1 a2 b1
  have d1:(1:Rat)≤((q.den:Int):Rat):=by
    have:=zG.2 (show (1:Int)≤(q.den:Int) by have:=q.den_pos;omega)
    exact this
  have u:q<p2 (0+(blen q.num:Int)):=by
    have:=rmL d1 (rlL h)
    grind
  have l:p2 (-(0+(blen (q.den:Int):Int)))≤q:=by
    have p:=qL (0+(blen (q.den:Int):Int))
    rw [←Rat.not_lt,←Rat.mul_lt_mul_right p,p2_neg]
    have h1:(1:Rat)≤(q.num:Rat):=zG.2 (show (1:Int)≤q.num by omega)
    have:=rmL (rlL b1) (rlL h)
    grind
  exact log2_up (blen q.num+blen (q.den:Int)) _ q l (by have:=Qz (show (0:Int)+(blen q.num:Int)≤-(0+(blen (q.den:Int):Int))+((blen q.num+blen (q.den:Int):Nat):Int)+1 by omega);grind)
def eps(p:Int):Rat:=p2 (1-p)
theorem Yf(p:Int):0<eps p:=qL _
theorem rat_floor{q:Rat}(hq:0≤q)(j:Int):∃ k:Int,0≤k∧(k:Rat)*p2 j≤q∧q<((k+1:Int):Rat)*p2 j:=by
  refine ⟨(q*p2 (-j)).floor,?_,?_,?_⟩
  · have:=rmN hq (rlL (qL (-j)))
    exact Rat.le_floor_iff.2 (by simpa using this)
  · have h:=rmR (Rat.floor_le (q*p2 (-j))) (rlL (qL j))
    rwa [Rat.mul_assoc,p2_neg,Rat.mul_one] at h
  · have h:=(QK j).2 (Rat.lt_floor_add_one (q*p2 (-j)))
    rw [Rat.mul_assoc,p2_neg,Rat.mul_one] at h
    exact h
theorem Dn.rel{p:Int}{q r:Rat}(h:Dn p q r)(hp:1≤p)(hq:0<q):q-eps p*q≤r∧0<r:=by
  obtain ⟨k,k1,k2⟩:=log2_ex hq
  obtain ⟨n,n0,n1,n2⟩:=rat_floor (rlL hq) (k+1-p)
  have hP:(2:Int)^(p-1).toNat≤n:=by
    have e:p2 (p-1)*p2 (k+1-p)=p2 k:=by rw [←Qb];congr 1;omega
    have:p2 (p-1)<((n+1:Int):Rat):=by
      rw [←QK (k+1-p),e];grind
    rw [zU (by omega)] at this
    have:=QA.1 this
    omega
  have r1:(n:Rat)*p2 (k+1-p)≤r:=by
    refine h.2.2 _ ?_ n1
    refine ⟨n,_,rfl,?_,?_⟩
    · have e:p2 p*p2 (k+1-p)=p2 (k+1):=by rw [←Qb];congr 1;omega
      rw [←QK (k+1-p),e];grind
    · have:=qL p
      have:(0:Rat)≤(n:Rat):=zG.2 n0
      grind
  have e1:p2 (k+1-p)=eps p*p2 k:=by unfold eps;rw [←Qb];congr 1;omega
  have g1:=rmL k1 (rlL (Yf p))
  have e2:((n+1:Int):Rat)*p2 (k+1-p)=(n:Rat)*p2 (k+1-p)+p2 (k+1-p):=by
    rw [rcA];show ((n:Rat)+1)*_=_;grind
  have np:(0:Rat)<(n:Rat):=cast_ne (by have:=two_pow_pos (p-1).toNat;omega)
  have:=Rat.mul_pos np (qL (k+1-p))
  exact ⟨by grind,by grind⟩
theorem Up.rel{p:Int}{q r:Rat}(h:Up p q r)(hp:1≤p)(hq:0<q):r≤q+eps p*q:=by
  obtain ⟨k,k1,k2⟩:=log2_ex hq
  obtain ⟨n,n0,n1,n2⟩:=rat_floor (rlL hq) (k+1-p)
  have e1:p2 (k+1-p)=eps p*p2 k:=by unfold eps;rw [←Qb];congr 1;omega
  have g1:=rmL k1 (rlL (Yf p))
  have e2:((n+1:Int):Rat)*p2 (k+1-p)=(n:Rat)*p2 (k+1-p)+p2 (k+1-p):=by
    rw [rcA];show ((n:Rat)+1)*_=_;grind
  have e:p2 p*p2 (k+1-p)=p2 (k+1):=by rw [←Qb];congr 1;omega
  have hn:(n:Rat)<p2 p:=by rw [←QK (k+1-p),e];grind
  have nn:(0:Rat)≤(n:Rat):=zG.2 n0
  rcases (show (((n+1:Int):Rat)<p2 p)∨p2 p≤((n+1:Int):Rat) by grind) with hl | hl
  · have r1:r≤((n+1:Int):Rat)*p2 (k+1-p):=by
      refine h.2.2 _ ⟨n+1,_,rfl,hl,?_⟩ (rlL n2)
      have:=qL p
      have:(0:Rat)≤((n+1:Int):Rat):=zG.2 (show (0:Int)≤n+1 by omega)
      grind
    grind
  · -- n+1 is a power of 2
    have r1:r≤p2 (k+1):=by
      refine h.2.2 _ ⟨1,k+1,?_,?_,?_⟩ (rlL k2)
      · show _=(1:Rat)*_;rw [Rat.one_mul]
      · have:=p2_lt (show (0:Int)<p by omega);rw [ZX] at this;exact this
      · have:=qL p;show -(p2 p)<(1:Rat);grind
    have g:=rmR hl (rlL (qL (k+1-p)))
    rw [e] at g
    grind
def Nar(δ a b:Rat):Prop:=0<a∧a≤b∧b≤a+δ*a
theorem Nar.mono{δ η a b:Rat}(h:Nar δ a b)(k:δ≤η):Nar η a b:=by
  have:=rmR k (rlL h.1)
  exact ⟨h.1,h.2.1,by have:=h.2.2;grind⟩
theorem Nar.self{a:Rat}(h:0<a):Nar 0 a a:=⟨h,Rat.le_refl,by grind⟩
theorem Nar.trim{δ a b a' b':Rat}{p:Int}(h:Nar δ a b)(d0:0≤δ)(hp:1≤p)(he:4*eps p≤1)(ha:Dn p a a')(hb:Up p b b'):Nar (2*δ+4*eps p) a' b':=by
  obtain ⟨a0,h1,h2⟩:=h
  have r1:=ha.rel hp a0
  have r2:=hb.rel hp (show 0<b by grind)
  have e0:=Yf p
  have l1:=ha.2.1
  have l2:=hb.2.1
  refine ⟨r1.2,by grind,?_⟩
  generalize eps p=ε at *
  have s1:a≤a' + 2*ε*a':=by
    have m1:=rmL r1.1 (show (0:Rat)≤1+2*ε by grind)
    have m2:=rmL (show 2*ε≤1 by grind) (rmN (rlL e0) (rlL a0))
    grind
  have s2:b+ε*b≤(1+δ)*(1+ε)*a:=by
    have:=rmL h2 (show (0:Rat)≤1+ε by grind)
    grind
  have s3:=rmL s1 (rmN (show (0:Rat)≤1+δ by grind) (show (0:Rat)≤1+ε by grind))
  have q1:(1+ε)*(1+2*ε)≤1+4*ε:=by
    have:=rmL (show 2*ε≤1 by grind) (rlL e0)
    grind
  have q2:(1+δ)*(1+4*ε)≤1+(2*δ+4*ε):=by
    have:=rmL he d0
    grind
  have q3:=rmL q1 (show (0:Rat)≤1+δ by grind)
  have q4:=rmR (show (1+δ)*((1+ε)*(1+2*ε))≤1+(2*δ+4*ε) by grind) (rlL r1.2)
  have e5:(1+δ)*(1+ε)*(a' + 2*ε*a')=(1+δ)*((1+ε)*(1+2*ε))*a':=by grind
  grind
theorem Nar.mul{δ η a b c d:Rat}(h:Nar δ a b)(k:Nar η c d)(d0:0≤δ)(_:0≤η):Nar (δ+η+δ*η) (a*c) (b*d):=by
  obtain ⟨a0,h1,h2⟩:=h
  obtain ⟨c0,k1,k2⟩:=k
  have m1:=rmR h1 (rlL c0)
  have m2:=rmL k1 (show 0≤b by grind)
  have m3:=rmR h2 (show 0≤d by grind)
  have g:=rmN d0 (rlL a0)
  have m4:=rmL k2 (show 0≤a+δ*a by grind)
  exact ⟨Rat.mul_pos a0 c0,by grind,by grind⟩
def nShortU:qU:=qF [.w,.i .u64] fun (xs:List Int) (d:Int)=>(some (0<d∧d≤4294967296),wT (ws (val xs/d)))
theorem nShortU_ok:SpecOk Tryz.prog 192 nShortU :=
  Qq Tryz.func192 rfl (by decide) fun _ _ hC hX _=>fun _ _ _ h d _ v h' hp=>by
    obtain rfl:=YE h'
    have h0:0<d:=hp.1
    have h1:d≤4294967296:=hp.2
    exact Ym hC hX (short3u_calls (zL h) ⟨by omega,by omega⟩ h0 h1)
def sN9:List (FuncId×qU):=(192,nShortU) :: sRef3
theorem sN9_ok:SpecsOk Tryz.prog sN9:=⟨nShortU_ok,sRef3_ok⟩
def niOne:qU:=qF [.i .i64] fun (q:Int)=>(some (0≤q∧q≤16777216),fxT ⟨2^q.toNat,0⟩)
theorem niOne_vc(q:Int)(Q:Tv→Prop):qH ⟨tys3,sN9⟩ (fun _=>none) 0 Tryz.f165 [.one (.int .i64 q)] Q=(zR 1∧((0:Int)≤q∧q≤1099511627776∧List.length (ws 1)≤8796093022208)∧Q (Tv.sv (Sv.agg [At.words true (ws (val (ws 1)*2^Int.toNat q)),At.int .u64 0]))):=by kernel_rfl
theorem niOne_ok:SpecOk Tryz.prog 165 niOne :=
  zA (qO QM sN9_ok) mixed Tryz.func165 rfl (by decide) (by decide) fun (q:Int) _ hp=>⟨fun _=>none,0,by
    obtain ⟨h0,h1⟩:0≤q∧q≤16777216:=hp
    refine (niOne_vc q _).mpr ?_
    rw [Zi,Int.one_mul]
    exact ⟨Yn,⟨h0,by omega,by simp [ws_one]⟩,.inr rfl⟩⟩
def QD(d:Dx)(q:Int):Fx:=if 0≤d.e+q then ⟨d.m*2^(d.e+q).toNat,0⟩ else ⟨d.m/2^(-d.e-q).toNat,if Z6 d.m (-d.e-q).toNat=true then 1 else 0⟩
def niFrom:qU:=qF [.d,.i .i64] fun (d:Dx) (q:Int)=>(some (d.xs.length≤1073741824∧eB 68719476736 d∧0≤q∧q≤16777216),fxT (QD d q))
theorem niFrom_vc(d:Dx)(q:Int)(Q:Tv→Prop):qH ⟨tys3,sN9⟩ (fun _=>none) 0 Tryz.f191 [.agg (dyL false d),.one (.int .i64 q)] Q=(inR (d.e+q)∧br (leI 0 (d.e+q)) (inR (d.e+q)∧((0:Int)≤d.e+q∧d.e+q≤1099511627776∧List.length d.xs≤8796093022208)∧Q (Tv.sv (Sv.agg [At.words true (ws (val d.xs*2^Int.toNat (d.e+q))),At.int .u64 0]))) (inR ((0:Int)-d.e)∧inR ((0:Int)-d.e-q)∧((0:Int)≤0-d.e-q∧(0:Int)-d.e-q≤9007199254740992)∧true=true∧br (Z6 (val (ws (val d.xs))) (Int.toNat ((0:Int)-d.e-q))) (Q (Tv.sv (Sv.agg [At.words true (ws (val (ws (val d.xs))/2^Int.toNat ((0:Int)-d.e-q))),At.int .u64 1]))) (Q (Tv.sv (Sv.agg [At.words true (ws (val (ws (val d.xs))/2^Int.toNat ((0:Int)-d.e-q))),At.int .u64 0]))))):=by kernel_rfl
theorem niFrom_ok:SpecOk Tryz.prog 191 niFrom :=
  zA (qO QM sN9_ok) mixed Tryz.func191 rfl (by decide) (by decide) fun (d:Dx) hd (q:Int) _ hp=>⟨fun _=>none,0,by
    obtain ⟨h1,⟨h2,h3⟩,h4,h5⟩:d.xs.length≤1073741824∧eB 68719476736 d∧0≤q∧q≤16777216:=hp
    show qH _ _ _ _ _ (fun t=>t=fxT (QD d q)∨fgT t=fxT (QD d q))
    refine (niFrom_vc d q _).mpr ⟨⟨by omega,by omega⟩,qB (fun h=>⟨⟨by omega,by omega⟩,⟨zS.1 h,by omega,by omega⟩,.inr ?_⟩) fun h=>⟨⟨by omega,by omega⟩,⟨by omega,by omega⟩,⟨by have:=Qn.1 h;omega,by omega⟩,rfl,?_⟩⟩
    · rw [QD,if_pos (zS.1 h)];rfl
    · rw [qN (WfW.val0 hd),Int.zero_sub,QD,if_neg (Qn.1 h)]
      refine qB (fun h'=>.inr ?_) fun h'=>.inr ?_
      · unfold Dx.m;rw [h'];rfl
      · unfold Dx.m;rw [h'];rfl⟩
def niAdd:qU:=qF [.fx,.fx] fun (x:Fw) (y:Fw)=>(some (x.Ok∧y.Ok),fxT (YY x.f y.f))
theorem niAdd_vc(x y:Fw)(Q:Tv→Prop):qH ⟨tys3,sN9⟩ (fun _=>none) 0 Tryz.f168 [.agg (fwL false x),.agg (fwL false y)] Q=((List.length x.xs≤17592186044414∧List.length y.xs≤17592186044414)∧true=true∧Q (Tv.sv (Sv.agg [At.words true (ws (val x.xs+val y.xs)),At.int .u64 (IntKind.wrap IntKind.u64 (x.e+y.e))]))):=by kernel_rfl
theorem niAdd_ok:SpecOk Tryz.prog 168 niAdd :=
  zA (qO QM sN9_ok) mixed Tryz.func168 rfl (by decide) (by decide) fun (x:Fw) _ (y:Fw) _ hp=>⟨fun _=>none,0,by
    obtain ⟨⟨a1,a2,a3⟩,b1,b2,b3⟩:x.Ok∧y.Ok:=hp
    refine (niAdd_vc x y _).mpr ?_
    rw [ZY ⟨by omega,by omega⟩]
    exact ⟨⟨by omega,by omega⟩,rfl,.inr rfl⟩⟩
def niSub:qU:=qF [.fx,.fx] fun (x:Fw) (y:Fw)=>(some (x.Ok∧y.Ok∧y.f.a+y.f.e≤x.f.a),fxT (subF x.f y.f))
theorem niSub_vc(x y:Fw)(Q:Tv→Prop):qH ⟨tys3,sN9⟩ (fun _=>none) 0 Tryz.f161 [.agg (fwL false x),.agg (fwL false y)] Q=(zR y.e∧(List.length y.xs≤17592186044414∧List.length (ws y.e)≤17592186044414)∧(val (ws (val y.xs+val (ws y.e)))≤val x.xs∧List.length x.xs≤17592186044414∧List.length (ws (val y.xs+val (ws y.e)))≤17592186044414)∧true=true∧Q (Tv.sv (Sv.agg [At.words true (ws (val x.xs-val (ws (val y.xs+val (ws y.e))))),At.int .u64 (IntKind.wrap IntKind.u64 (x.e+y.e))]))):=by kernel_rfl
theorem niSub_ok:SpecOk Tryz.prog 161 niSub :=
  zA (qO QM sN9_ok) mixed Tryz.func161 rfl (by decide) (by decide) fun (x:Fw) hx (y:Fw) hy hp=>⟨fun _=>none,0,by
    obtain ⟨⟨a1,a2,a3⟩,yo,h⟩:x.Ok∧y.Ok∧y.f.a+y.f.e≤x.f.a:=hp
    have yl:=yo.len hy
    obtain ⟨b1,b2,b3⟩:=yo
    have:=ws_small b3
    refine (niSub_vc x y _).mpr ?_
    rw [qN b2,←y.f_a,←y.f_e,qN yl.2.1,ZY ⟨by rw [y.f_e];omega,by rw [y.f_e];omega⟩,y.f_e]
    exact ⟨⟨b2,by omega⟩,⟨by omega,by omega⟩,⟨h,by omega,by rw [←y.f_e];omega⟩,rfl,.inr rfl⟩⟩
def niHigh:qU:=qF [.fx] fun (x:Fw)=>(some x.Ok,wT (ws (x.f.a+x.f.e)))
theorem niHigh_vc(x:Fw)(Q:Tv→Prop):qH ⟨tys3,sN9⟩ (fun _=>none) 0 Tryz.f160 [.agg (fwL false x)] Q=(zR x.e∧(List.length x.xs≤17592186044414∧List.length (ws x.e)≤17592186044414)∧true=true∧Q (Tv.sv (Sv.one (At.words true (ws (val x.xs+val (ws x.e))))))):=by kernel_rfl
theorem niHigh_ok:SpecOk Tryz.prog 160 niHigh :=
  qG (qO QM sN9_ok) mixed Tryz.func160 rfl (by decide) (by decide) fun (x:Fw) _ hp=>⟨fun _=>none,0,by
    obtain ⟨a1,a2,a3⟩:x.Ok:=hp
    refine (niHigh_vc x _).mpr ?_
    have:=ws_small a3
    rw [qN a2]
    exact ⟨⟨a2,by omega⟩,⟨by omega,by omega⟩,rfl,rfl⟩⟩
def niBtw:qU:=qF [.w,.w] fun (xs:List Int) (ys:List Int)=>(some (val xs≤val ys∧val ys-val xs≤1099511627776∧xs=ws (val xs)∧xs.length≤17592186044414∧ys.length≤17592186044414),fxT (btwF (val xs) (val ys)))
theorem niBtw_vc(xs ys:List Int)(Q:Tv→Prop):qH ⟨tys3,sN9⟩ (fun _=>none) 0 Tryz.f193 [.one (.words false xs),.one (.words false ys)] Q=((val xs≤val ys∧List.length ys≤17592186044414∧List.length xs≤17592186044414)∧br (ltI 0 (↑(List.length (ws (val ys-val xs))):Int)) (((0:Int)≤0∧(0:Int)<(↑(List.length (ws (val ys-val xs))):Int))∧Q (Tv.sv (Sv.agg [At.words false xs,At.int .u64 (nth (ws (val ys-val xs)) 0)]))) (Q (Tv.sv (Sv.agg [At.words false xs,At.int .u64 0])))):=by kernel_rfl
theorem niBtw_ok:SpecOk Tryz.prog 193 niBtw :=
  zA (qO QM sN9_ok) mixed Tryz.func193 rfl (by decide) (by decide) fun (xs:List Int) _ (ys:List Int) _ hp=>⟨fun _=>none,0,by
    obtain ⟨h1,h2,h3,h4,h5⟩:val xs≤val ys∧val ys-val xs≤1099511627776∧xs=ws (val xs)∧xs.length≤17592186044414∧ys.length≤17592186044414:=hp
    show qH _ _ _ _ _ (fun t=>t=fxT (btwF (val xs) (val ys))∨fgT t=fxT (btwF (val xs) (val ys)))
    refine (niBtw_vc xs ys _).mpr ⟨⟨h1,h5,h4⟩,?_⟩
    rw [YV (by omega)]
    refine qB (fun h=>⟨⟨by omega,?_⟩,.inl ?_⟩) fun h=>.inl ?_
    · have:=(YV (n:=val ys-val xs) (by omega)).trans h;exact qW.1 this
    · rw [nth_ws0 (by simp at h;omega) (by omega)]
      show _=Tv.sv (.agg [.words false (ws (val xs)),.int .u64 (val ys-val xs)])
      rw [←h3]
    · have h:val ys-val xs=0:=by simpa using h
      show _=Tv.sv (.agg [.words false (ws (val xs)),.int .u64 (val ys-val xs)])
      rw [←h3,h]⟩
def niUp:qU:=qF [.w,.i .i64] fun (xs:List Int) (q:Int)=>(some (0≤q∧q≤16777216∧(ws (val xs)).length≤17592186044414),wT (ws (upI (val xs) q.toNat)))
theorem niUp_vc(xs:List Int)(q:Int)(Q:Tv→Prop):qH ⟨tys3,sN9⟩ (fun _=>none) 0 Tryz.f194 [.one (.words false xs),.one (.int .i64 q)] Q=(((0:Int)≤q∧q≤9007199254740992)∧br (Z6 (val xs) (Int.toNat q)) (zR 1∧(List.length (ws (val xs/2^Int.toNat q))≤17592186044414∧List.length (ws 1)≤17592186044414)∧Q (Tv.sv (Sv.one (At.words true (ws (val (ws (val xs/2^Int.toNat q))+val (ws 1))))))) (Q (Tv.sv (Sv.one (At.words true (ws (val xs/2^Int.toNat q))))))):=by kernel_rfl
theorem niUp_ok:SpecOk Tryz.prog 194 niUp :=
  qG (qO QM sN9_ok) mixed Tryz.func194 rfl (by decide) (by decide) fun (xs:List Int) hx (q:Int) _ hp=>⟨fun _=>none,0,by
    obtain ⟨h1,h2,h3⟩:0≤q∧q≤16777216∧(ws (val xs)).length≤17592186044414:=hp
    have p0:=two_pow_pos q.toNat
    have v0:=WfW.val0 hx
    have d0:=Int.ediv_nonneg v0 (show (0:Int)≤2^q.toNat by omega)
    have hl:(ws (val xs/2^q.toNat)).length≤(ws (val xs)).length:=Qk (Int.lt_of_le_of_lt (Int.ediv_le_self _ v0) (Zh v0))
    refine (niUp_vc xs q _).mpr ⟨⟨h1,by omega⟩,?_⟩
    show br _ (_∧_∧_=wT (ws (upI (val xs) q.toNat))) (_=wT (ws (upI (val xs) q.toNat)))
    rw [upI_lost,qN d0,Zi]
    refine qB (fun h=>⟨Yn,⟨by omega,by simp [ws_one]⟩,?_⟩) fun h=>?_
    · rw [h];rfl
    · rw [h,if_neg (by simp),Int.add_zero]⟩
def niSmall:qU:=qF [.fx,.i .u64] fun (x:Fw) (d:Int)=>(some (0≤x.e∧x.e≤1099511627776∧0<d∧d≤4294967296),fxT (qE x.f d))
theorem niSmall_vc(x:Fw)(d:Int)(Q:Tv→Prop):qH ⟨tys3,sN9⟩ (fun _=>none) 0 Tryz.f166 [.agg (fwL false x),.one (.int .u64 d)] Q=(((0:Int)<d∧d≤4294967296)∧d≠0∧true=true∧Q (Tv.sv (Sv.agg [At.words true (ws (val x.xs/d)),At.int .u64 (IntKind.wrap IntKind.u64 (IntKind.wrap IntKind.u64 (Int.tdiv x.e d)+2))]))):=by kernel_rfl
theorem niSmall_ok:SpecOk Tryz.prog 166 niSmall :=
  zA (qO QM sN9_ok) mixed Tryz.func166 rfl (by decide) (by decide) fun (x:Fw) _ (d:Int) _ hp=>⟨fun _=>none,0,by
    obtain ⟨h0,h1,h2,h3⟩:0≤x.e∧x.e≤1099511627776∧0<d∧d≤4294967296:=hp
    have q0:=Int.ediv_nonneg h0 (show 0≤d by omega)
    have q1:=Int.ediv_le_self d h0
    refine (niSmall_vc x d _).mpr ?_
    rw [Int.tdiv_eq_ediv_of_nonneg h0,ZY (n:=x.e/d) ⟨q0,by omega⟩,ZY ⟨by omega,by omega⟩]
    exact ⟨⟨h2,h3⟩,by omega,rfl,.inr rfl⟩⟩
def sNi1:List (FuncId×qU):=[(165,niOne),(191,niFrom),(168,niAdd),(161,niSub),(160,niHigh),(193,niBtw),(194,niUp),(166,niSmall)] ++ sRef3
theorem sNi1_ok:SpecsOk Tryz.prog sNi1:=⟨niOne_ok,niFrom_ok,niAdd_ok,niSub_ok,niHigh_ok,niBtw_ok,niUp_ok,niSmall_ok,sRef3_ok⟩
def niMul:qU:=qF [.fx,.fx,.i .i64] fun (x:Fw) (y:Fw) (q:Int)=>(some (x.Ok∧y.Ok∧0≤q∧q≤16777216∧(Xb x.f y.f q).e≤1099511627776),fxT (Xb x.f y.f q))
theorem niMul_vc(x y:Fw)(q:Int)(Q:Tv→Prop):qH ⟨tys3,sNi1⟩ (fun _=>none) 0 Tryz.f167 [.agg (fwL false x),.agg (fwL false y),.one (.int .i64 q)] Q=(List.length (ws (val x.xs))+List.length (ws (val y.xs))≤17592186044414∧((0:Int)≤q∧q≤9007199254740992)∧Fw.Ok x∧Fw.Ok y∧List.length (ws (val (ws ((Fw.f x).a+(Fw.f x).e))))+List.length (ws (val (ws ((Fw.f y).a+(Fw.f y).e))))≤17592186044414∧((0:Int)≤q∧q≤16777216∧List.length (ws (val (ws (val (ws ((Fw.f x).a+(Fw.f x).e))*val (ws ((Fw.f y).a+(Fw.f y).e))))))≤17592186044414)∧(val (ws (val (ws (val x.xs*val y.xs))/2^Int.toNat q))≤val (ws (upI (val (ws (val (ws ((Fw.f x).a+(Fw.f x).e))*val (ws ((Fw.f y).a+(Fw.f y).e))))) (Int.toNat q)))∧val (ws (upI (val (ws (val (ws ((Fw.f x).a+(Fw.f x).e))*val (ws ((Fw.f y).a+(Fw.f y).e))))) (Int.toNat q)))-val (ws (val (ws (val x.xs*val y.xs))/2^Int.toNat q))≤1099511627776∧ws (val (ws (val x.xs*val y.xs))/2^Int.toNat q)=ws (val (ws (val (ws (val x.xs*val y.xs))/2^Int.toNat q)))∧List.length (ws (val (ws (val x.xs*val y.xs))/2^Int.toNat q))≤17592186044414∧List.length (ws (upI (val (ws (val (ws ((Fw.f x).a+(Fw.f x).e))*val (ws ((Fw.f y).a+(Fw.f y).e))))) (Int.toNat q)))≤17592186044414)∧true=true∧Q (Tv.sv (Sv.agg (fwL false (fw (btwF (val (ws (val (ws (val x.xs*val y.xs))/2^Int.toNat q))) (val (ws (upI (val (ws (val (ws ((Fw.f x).a+(Fw.f x).e))*val (ws ((Fw.f y).a+(Fw.f y).e))))) (Int.toNat q)))))))))):=by kernel_rfl
theorem niMul_ok:SpecOk Tryz.prog 167 niMul :=
  zA (qO QM sNi1_ok) mixed Tryz.func167 rfl (by decide) (by decide) fun (x:Fw) hx (y:Fw) hy (q:Int) _ hp=>⟨fun _=>none,0,by
    obtain ⟨xo,yo,q0,q1,he⟩:x.Ok∧y.Ok∧0≤q∧q≤16777216∧(Xb x.f y.f q).e≤1099511627776:=hp
    obtain ⟨x1,x2,x3,x4⟩:=xo.len hx
    obtain ⟨y1,y2,y3,y4⟩:=yo.len hy
    have m1:=Int.mul_nonneg x1 y1
    have m2:=Int.mul_nonneg x2 y2
    have p0:=two_pow_pos q.toNat
    have d1:=Int.ediv_nonneg m1 (show (0:Int)≤2^q.toNat by omega)
    have hlo:=mulF_lo (k:=q.toNat) x1 y1 (b:=x.f.e) (d:=y.f.e) xo.2.1 yo.2.1
    have hl1:=ws_len_mul x1 y1
    have hl2:=ws_len_mul x2 y2
    have hl3:(ws (x.f.a*y.f.a/2^q.toNat)).length≤(ws (x.f.a*y.f.a)).length:=Qk (Int.lt_of_le_of_lt (Int.ediv_le_self _ m1) (Zh m1))
    have hu:upI ((x.f.a+x.f.e)*(y.f.a+y.f.e)) q.toNat≤(x.f.a+x.f.e)*(y.f.a+y.f.e)+1:=by
      have:=Int.ediv_le_self (2^q.toNat) m2
      unfold upI;split<;>omega
    have hl4:(ws (upI ((x.f.a+x.f.e)*(y.f.a+y.f.e)) q.toNat)).length≤(ws ((x.f.a+x.f.e)*(y.f.a+y.f.e))).length+1:=by
      refine Qk ?_
      have a1:=Zh m2
      rw [Qe]
      have:=Zc (ws ((x.f.a+x.f.e)*(y.f.a+y.f.e))).length
      generalize Qd (ws ((x.f.a+x.f.e)*(y.f.a+y.f.e))).length=W at *
      omega
    have he':upI ((x.f.a+x.f.e)*(y.f.a+y.f.e)) q.toNat-x.f.a*y.f.a/2^q.toNat≤1099511627776:=he
    show qH _ _ _ _ _ (fun t=>t=fxT (Xb x.f y.f q)∨fgT t=fxT (Xb x.f y.f q))
    refine (niMul_vc x y q _).mpr ?_
    rw [←x.f_a,←y.f_a,qN x2,qN y2,qN m2,qN m1,qN d1,qN (n:=upI _ _) (by omega)]
    exact ⟨by omega,⟨by omega,by omega⟩,xo,yo,by omega,⟨by omega,by omega,by omega⟩,⟨hlo,he',rfl,by omega,by omega⟩,rfl,.inl rfl⟩⟩
def sNi2:List (FuncId×qU):=[(51,fForm),(167,niMul)] ++ sNi1
theorem sNi2_ok:SpecsOk Tryz.prog sNi2:=⟨fForm_ok,niMul_ok,sNi1_ok⟩
def niIval:qU:=qF [.fx,.i .i64] fun (x:Fw) (q:Int)=>(some (x.Ok∧0≤q∧q≤16777216),vT (ivF x.f q))
theorem niIval_vc(x:Fw)(q:Int)(Q:Tv→Prop):qH ⟨tys3,sNi2⟩ (fun _=>none) 0 Tryz.f130 [.agg (fwL false x),.one (.int .i64 q)] Q=(inR ((0:Int)-q)∧((-4611686018427387904:Int)≤0-q∧(0:Int)-q≤4611686018427387904)∧Fw.Ok x∧inR ((0:Int)-q)∧((-4611686018427387904:Int)≤0-q∧(0:Int)-q≤4611686018427387904)∧true=true∧Q (Tv.sv (Sv.agg (ivL true (Vx.mk (mkD false (val x.xs) ((0:Int)-q)) (mkD false (val (ws ((Fw.f x).a+(Fw.f x).e))) ((0:Int)-q))))))):=by kernel_rfl
theorem niIval_ok:SpecOk Tryz.prog 130 niIval :=
  qG (qO QM sNi2_ok) mixed Tryz.func130 rfl (by decide) (by decide) fun (x:Fw) hx (q:Int) _ hp=>⟨fun _=>none,0,by
    obtain ⟨xo,q0,q1⟩:x.Ok∧0≤q∧q≤16777216:=hp
    refine (niIval_vc x q _).mpr ?_
    rw [qN (xo.len hx).2.1,Int.zero_sub]
    exact ⟨⟨by omega,by omega⟩,⟨by omega,by omega⟩,xo,⟨by omega,by omega⟩,⟨by omega,by omega⟩,rfl,rfl⟩⟩
def ZI(v:Vx)(q:Int):Fx:=btwF (QD v.lo q).a ((QD v.hi q).a+(QD v.hi q).e)
theorem elFix_vc(v:Vx)(q:Int)(Q:Tv→Prop):qH ⟨tys3,sNi2⟩ (fun _=>none) 0 Tryz.f164 [.agg (ivL false v),.one (.int .i64 q)] Q=((List.length v.lo.xs≤1073741824∧eB 68719476736 v.lo∧(0:Int)≤q∧q≤16777216)∧(List.length v.hi.xs≤1073741824∧eB 68719476736 v.hi∧(0:Int)≤q∧q≤16777216)∧Fw.Ok (fw (QD v.hi q))∧(val (fw (QD v.lo q)).xs≤val (ws ((Fw.f (fw (QD v.hi q))).a+(Fw.f (fw (QD v.hi q))).e))∧List.length (ws ((Fw.f (fw (QD v.hi q))).a+(Fw.f (fw (QD v.hi q))).e))≤17592186044414∧List.length (fw (QD v.lo q)).xs≤17592186044414)∧true=true∧br (ltI 0 (↑(List.length (ws (val (ws ((Fw.f (fw (QD v.hi q))).a+(Fw.f (fw (QD v.hi q))).e))-val (fw (QD v.lo q)).xs))):Int)) (((0:Int)≤0∧(0:Int)<(↑(List.length (ws (val (ws ((Fw.f (fw (QD v.hi q))).a+(Fw.f (fw (QD v.hi q))).e))-val (fw (QD v.lo q)).xs))):Int))∧Q (Tv.sv (Sv.agg [At.words false (fw (QD v.lo q)).xs,At.int .u64 (nth (ws (val (ws ((Fw.f (fw (QD v.hi q))).a+(Fw.f (fw (QD v.hi q))).e))-val (fw (QD v.lo q)).xs)) 0)]))) (Q (Tv.sv (Sv.agg [At.words false (fw (QD v.lo q)).xs,At.int .u64 0])))):=by kernel_rfl
theorem from9_ok{d:Dx}{q:Int}(hm:0≤d.m)(hs:d.Sm 1073741824)(q0:0≤q)(q1:q≤16777216):(QD d q).Ok:=by
  obtain ⟨s1,s2,s3⟩:=hs
  unfold QD
  split
  · have p0:=two_pow_pos (d.e+q).toNat
    refine ⟨Int.mul_nonneg hm (by omega),?_,by show (0:Int)≤0;omega,by show (0:Int)≤_;omega⟩
    show blen (d.m*2^(d.e+q).toNat)≤_
    by_cases h:0<d.m
    · rw [Ql h];omega
    · rw [show d.m=0 by omega,Int.zero_mul];decide
  · have p0:=two_pow_pos (-d.e-q).toNat
    refine ⟨Int.ediv_nonneg hm (by omega),?_,?_,?_⟩
    · have:=ZK (m:=d.m/2^(-d.e-q).toNat) (n:=d.m) (Int.ediv_le_self _ hm)
      show blen (d.m/2^(-d.e-q).toNat)≤_
      omega
    · show (0:Int)≤(if _ then 1 else 0);split<;>omega
    · show (if _ then (1:Int) else 0)≤_;split<;>omega
def elFix:qU:=qF [.v,.i .i64] fun (v:Vx) (q:Int)=>(some (v.Sm 1073741824∧v.lo.xs.length≤1073741824∧v.hi.xs.length≤1073741824∧0≤q∧q≤16777216∧0≤(ZI v q).e∧(ZI v q).e≤1099511627776),fxT (ZI v q))
theorem elFix_ok:SpecOk Tryz.prog 164 elFix :=
  zA (qO QM sNi2_ok) mixed Tryz.func164 rfl (by decide) (by decide) fun (v:Vx) hv (q:Int) _ hp=>⟨fun _=>none,0,by
    obtain ⟨⟨s1,s2⟩,l1,l2,q0,q1,e0,e1⟩:v.Sm 1073741824∧v.lo.xs.length≤1073741824∧v.hi.xs.length≤1073741824∧0≤q∧q≤16777216∧0≤(ZI v q).e∧(ZI v q).e≤1099511627776:=hp
    have hv:=Vx.Wf.p hv
    have o1:=from9_ok hv.1 s1 q0 q1
    have o2:=from9_ok hv.2 s2 q0 q1
    have n1:=QR (k:=1073741824) o1.1 (by have:=o1.2.1;omega)
    have e2:(fw (QD v.hi q)).f=QD v.hi q:=XD o2.1
    have a0:0≤(QD v.hi q).a+(QD v.hi q).e:=by have:=o2.1;have:=o2.2.2.1;omega
    have n2:=(o2.w).len (show WfW (ws (QD v.hi q).a) from ⟨Yz _,by have:=o2.w.1;show (ws (QD v.hi q).a).length≤_;have:(ws (QD v.hi q).a).length≤1073741824:=this;omega⟩)
    rw [e2] at n2
    have he0:0≤(QD v.hi q).a+(QD v.hi q).e-(QD v.lo q).a:=e0
    have he1:(QD v.hi q).a+(QD v.hi q).e-(QD v.lo q).a≤1099511627776:=e1
    show qH _ _ _ _ _ (fun t=>t=fxT (ZI v q)∨fgT t=fxT (ZI v q))
    refine (elFix_vc v q _).mpr ?_
    rw [e2,qN a0,show (fw (QD v.lo q)).xs=ws (QD v.lo q).a from rfl,qN o1.1,YV he0]
    refine ⟨⟨l1,s1.eB (by omega),q0,q1⟩,⟨l2,s2.eB (by omega),q0,q1⟩,o2.w,⟨by omega,by omega,by omega⟩,rfl,qB (fun h=>⟨⟨by omega,?_⟩,.inl ?_⟩) fun h=>.inl ?_⟩
    · have:=(YV he0).trans h;exact qW.1 this
    · rw [nth_ws0 (by simp at h;omega) (by omega)];rfl
    · have h:(QD v.hi q).a+(QD v.hi q).e-(QD v.lo q).a=0:=by simpa using h
      show _=Tv.sv (.agg [.words false (ws (QD v.lo q).a),.int .u64 ((QD v.hi q).a+(QD v.hi q).e-(QD v.lo q).a)])
      rw [h]⟩
def sNi:List (FuncId×qU):=[(164,elFix),(130,niIval)] ++ sNi2
theorem sNi_ok:SpecsOk Tryz.prog sNi:=⟨elFix_ok,niIval_ok,sNi2_ok⟩
def InV(v:Vx)(x:Rat):Prop:=v.lo.rv≤x∧x≤v.hi.rv
theorem right_of{x:Vx}(h1:x.lo.fitsB=true)(h2:x.hi.fitsB=true)(h:x.lo.rv≤x.hi.rv):qT x=true:=by
  rw [qT,h1,h2,decide_eq_true (cmpD_le.2 h)];rfl
theorem spanS_rv(v:Vx)(d:Dx):(Qp v d).lo.rv≤v.lo.rv∧(Qp v d).lo.rv≤d.rv∧((Qp v d).lo=v.lo∨(Qp v d).lo=d)∧v.hi.rv≤(Qp v d).hi.rv∧d.rv≤(Qp v d).hi.rv∧((Qp v d).hi=v.hi∨(Qp v d).hi=d):=by
  unfold Qp
  have a:(if QJ d v.lo<0 then d else v.lo).rv≤v.lo.rv∧(if QJ d v.lo<0 then d else v.lo).rv≤d.rv∧((if QJ d v.lo<0 then d else v.lo)=v.lo∨(if QJ d v.lo<0 then d else v.lo)=d):=by
    by_cases h:QJ d v.lo<0
    · rw [if_pos h];have:=cmpD_lt0.1 h;exact ⟨by grind,by grind,.inr rfl⟩
    · rw [if_neg h];have:¬ d.rv<v.lo.rv:=fun k=>h (cmpD_lt0.2 k);exact ⟨by grind,by grind,.inl rfl⟩
  have b:v.hi.rv≤(if 0<QJ d v.hi then d else v.hi).rv∧d.rv≤(if 0<QJ d v.hi then d else v.hi).rv∧((if 0<QJ d v.hi then d else v.hi)=v.hi∨(if 0<QJ d v.hi then d else v.hi)=d):=by
    by_cases h:0<QJ d v.hi
    · rw [if_pos h];have:=cmpD_gt0.1 h;exact ⟨by grind,by grind,.inr rfl⟩
    · rw [if_neg h];have:¬ v.hi.rv<d.rv:=fun k=>h (cmpD_gt0.2 k);exact ⟨by grind,by grind,.inl rfl⟩
  exact ⟨a.1,a.2.1,a.2.2,b.1,b.2.1,b.2.2⟩
theorem span4_lo(a b c d:Dx):(Qt a [b,c,d]).lo.rv≤a.rv∧(Qt a [b,c,d]).lo.rv≤b.rv∧(Qt a [b,c,d]).lo.rv≤c.rv∧(Qt a [b,c,d]).lo.rv≤d.rv ∧
    ((Qt a [b,c,d]).lo=a∨(Qt a [b,c,d]).lo=b∨(Qt a [b,c,d]).lo=c∨(Qt a [b,c,d]).lo=d):=by
  have h1:=spanS_rv ⟨a,a⟩ b
  have h2:=spanS_rv (Qp ⟨a,a⟩ b) c
  have h3:=spanS_rv (Qp (Qp ⟨a,a⟩ b) c) d
  rw [show Qt a [b,c,d]=Qp (Qp (Qp ⟨a,a⟩ b) c) d from rfl]
  have a1:=h1.1;have a2:=h1.2.1;have a3:=h2.1;have a4:=h2.2.1;have a5:=h3.1;have a6:=h3.2.1
  simp only at a1
  refine ⟨by grind,by grind,by grind,a6,?_⟩
  rcases h3.2.2.1 with k | k<;>rw [k]
  · rcases h2.2.2.1 with k | k<;>rw [k]
    · rcases h1.2.2.1 with k | k<;>rw [k]
      · exact .inl rfl
      · exact .inr (.inl rfl)
    · exact .inr (.inr (.inl rfl))
  · exact .inr (.inr (.inr rfl))
theorem span4_hi(a b c d:Dx):a.rv≤(Qt a [b,c,d]).hi.rv∧b.rv≤(Qt a [b,c,d]).hi.rv∧c.rv≤(Qt a [b,c,d]).hi.rv∧d.rv≤(Qt a [b,c,d]).hi.rv ∧
    ((Qt a [b,c,d]).hi=a∨(Qt a [b,c,d]).hi=b∨(Qt a [b,c,d]).hi=c∨(Qt a [b,c,d]).hi=d):=by
  have h1:=spanS_rv ⟨a,a⟩ b
  have h2:=spanS_rv (Qp ⟨a,a⟩ b) c
  have h3:=spanS_rv (Qp (Qp ⟨a,a⟩ b) c) d
  rw [show Qt a [b,c,d]=Qp (Qp (Qp ⟨a,a⟩ b) c) d from rfl]
  have a1:=h1.2.2.2.1;have a2:=h1.2.2.2.2.1;have a3:=h2.2.2.2.1;have a4:=h2.2.2.2.2.1;have a5:=h3.2.2.2.1;have a6:=h3.2.2.2.2.1
  simp only at a1
  refine ⟨by grind,by grind,by grind,a6,?_⟩
  rcases h3.2.2.2.2.2 with k | k<;>rw [k]
  · rcases h2.2.2.2.2.2 with k | k<;>rw [k]
    · rcases h1.2.2.2.2.2 with k | k<;>rw [k]
      · exact .inl rfl
      · exact .inr (.inl rfl)
    · exact .inr (.inr (.inl rfl))
  · exact .inr (.inr (.inr rfl))
theorem Zr{w:Vx}{p:Int}(hw:w.P)(hp:1≤p):Dn p w.lo.rv (qV w p).lo.rv∧Up p w.hi.rv (qV w p).hi.rv:=⟨(Xa hw.1 hp).1,(Xa hw.2 hp).2⟩
theorem plus_best{v u:Vx}{p:Int}(hv:v.P)(hu:u.P)(hp:1≤p):Dn p (v.lo.rv+u.lo.rv) (plusV v u p).lo.rv∧Up p (v.hi.rv+u.hi.rv) (plusV v u p).hi.rv:=by
  have:=Zr (w:=sumV v u) ⟨YF,YF⟩ hp
  rw [show (sumV v u).lo.rv=v.lo.rv+u.lo.rv from rv_plus hv.1 hu.1,show (sumV v u).hi.rv=v.hi.rv+u.hi.rv from rv_plus hv.2 hu.2] at this
  exact this
theorem less_best{v u:Vx}{p:Int}(hv:v.P)(hu:u.P)(hp:1≤p):Dn p (v.lo.rv-u.hi.rv) (lessV v u p).lo.rv∧Up p (v.hi.rv-u.lo.rv) (lessV v u p).hi.rv:=by
  have:=plus_best (v:=v) (u:=ZF u) hv ⟨YQ,YQ⟩ hp
  rw [show (ZF u).lo.rv = -u.hi.rv from rv_neg hu.2,show (ZF u).hi.rv = -u.lo.rv from rv_neg hu.1,←Rat.sub_eq_add_neg,←Rat.sub_eq_add_neg] at this
  exact this
theorem prod_lo{v u:Vx}(hv:v.P)(hu:u.P):(∀ x0 y0,(x0=v.lo.rv∨x0=v.hi.rv)→(y0=u.lo.rv∨y0=u.hi.rv)→(prodV v u).lo.rv≤x0*y0∧x0*y0≤(prodV v u).hi.rv):=by
  obtain ⟨a1,a2,a3,a4,_⟩:=span4_lo (zQ v.lo u.lo) (zQ v.lo u.hi) (zQ v.hi u.lo) (zQ v.hi u.hi)
  obtain ⟨b1,b2,b3,b4,_⟩:=span4_hi (zQ v.lo u.lo) (zQ v.lo u.hi) (zQ v.hi u.lo) (zQ v.hi u.hi)
  rw [Yo hv.1 hu.1] at a1 b1
  rw [Yo hv.1 hu.2] at a2 b2
  rw [Yo hv.2 hu.1] at a3 b3
  rw [Yo hv.2 hu.2] at a4 b4
  intro x0 y0 hx hy
  rcases hx with rfl | rfl<;>rcases hy with rfl | rfl
  · exact ⟨a1,b1⟩
  · exact ⟨a2,b2⟩
  · exact ⟨a3,b3⟩
  · exact ⟨a4,b4⟩
theorem prod_at{v u:Vx}(hv:v.P)(hu:u.P):(∃ x0 y0,(x0=v.lo.rv∨x0=v.hi.rv)∧(y0=u.lo.rv∨y0=u.hi.rv)∧(prodV v u).lo.rv=x0*y0)∧(∃ x0 y0,(x0=v.lo.rv∨x0=v.hi.rv)∧(y0=u.lo.rv∨y0=u.hi.rv)∧(prodV v u).hi.rv=x0*y0):=by
  obtain ⟨_,_,_,_,a⟩:=span4_lo (zQ v.lo u.lo) (zQ v.lo u.hi) (zQ v.hi u.lo) (zQ v.hi u.hi)
  obtain ⟨_,_,_,_,b⟩:=span4_hi (zQ v.lo u.lo) (zQ v.lo u.hi) (zQ v.hi u.lo) (zQ v.hi u.hi)
  constructor
  · show ∃ x0 y0,_∧_∧(Qt (zQ v.lo u.lo) [zQ v.lo u.hi,zQ v.hi u.lo,zQ v.hi u.hi]).lo.rv=_
    rcases a with a | a | a | a<;>rw [a]
    · exact ⟨_,_,.inl rfl,.inl rfl,Yo hv.1 hu.1⟩
    · exact ⟨_,_,.inl rfl,.inr rfl,Yo hv.1 hu.2⟩
    · exact ⟨_,_,.inr rfl,.inl rfl,Yo hv.2 hu.1⟩
    · exact ⟨_,_,.inr rfl,.inr rfl,Yo hv.2 hu.2⟩
  · show ∃ x0 y0,_∧_∧(Qt (zQ v.lo u.lo) [zQ v.lo u.hi,zQ v.hi u.lo,zQ v.hi u.hi]).hi.rv=_
    rcases b with b | b | b | b<;>rw [b]
    · exact ⟨_,_,.inl rfl,.inl rfl,Yo hv.1 hu.1⟩
    · exact ⟨_,_,.inl rfl,.inr rfl,Yo hv.1 hu.2⟩
    · exact ⟨_,_,.inr rfl,.inl rfl,Yo hv.2 hu.1⟩
    · exact ⟨_,_,.inr rfl,.inr rfl,Yo hv.2 hu.2⟩
theorem prod_in{v u:Vx}{x y:Rat}(hv:v.P)(hu:u.P)(hx:InV v x)(hy:InV u y):(prodV v u).lo.rv≤x*y∧x*y≤(prodV v u).hi.rv:=by
  have h:=prod_lo hv hu
  obtain ⟨x0,y0,k1,k2,k3⟩:=corner_le hx.1 hx.2 hy.1 hy.2
  obtain ⟨x1,y1,l1,l2,l3⟩:=corner_ge hx.1 hx.2 hy.1 hy.2
  have h1:=h x0 y0 k1 k2
  have h2:=h x1 y1 l1 l2
  constructor<;>grind
theorem times_best{v u:Vx}{p:Int}(hp:1≤p)(hv:v.P)(hu:u.P):Dn p (prodV v u).lo.rv (qK v u p).lo.rv∧Up p (prodV v u).hi.rv (qK v u p).hi.rv:=by
  have _:=hv
  have _:=hu
  exact Zr (prodV_p v u) hp
theorem inv_between{c d y:Rat}(h1:c≤y)(h2:y≤d)(h:0<c∨d<0):d⁻¹≤y⁻¹∧y⁻¹≤c⁻¹:=by
  have key:∀ {a b:Rat},a≤b→(0<a∨b<0)→b⁻¹≤a⁻¹:=by
    intro a b hab h0
    have ha:a≠0:=by grind
    have hb:b≠0:=by grind
    have e1:a⁻¹*a=1:=Rat.inv_mul_cancel a ha
    have e2:b⁻¹*b=1:=Rat.inv_mul_cancel b hb
    have e3:(a⁻¹-b⁻¹)*(a*b)=b-a:=by grind
    have hab0:0<a*b:=by
      rcases h0 with h0 | h0
      · exact Rat.mul_pos h0 (by grind)
      · have:=Rat.mul_pos (show 0 < -a by grind) (show 0 < -b by grind);grind
    rcases (show b⁻¹≤a⁻¹∨a⁻¹<b⁻¹ by grind) with h | h
    · exact h
    · have:=Rat.mul_pos (show 0<b⁻¹-a⁻¹ by grind) hab0
      grind
  exact ⟨key h2 (by grind),key h1 (by grind)⟩
def Off0(u:Vx):Prop:=0<u.lo.rv∨u.hi.rv<0
theorem rv_ne{d:Dx}(h:d.rv≠0):d.m≠0:=fun e=>h (Ye e)
theorem over_corner{a b:Dx}{p:Int}(ha:0≤a.m)(hb:0≤b.m)(hb0:b.rv≠0)(hp:1≤p):Dn p (a.rv*b.rv⁻¹) (Qc a b p false).rv∧Up p (a.rv*b.rv⁻¹) (Qc a b p true).rv :=
  over_best ha hb (rv_ne hb0) hp (by rw [Rat.mul_assoc,Rat.inv_mul_cancel _ hb0,Rat.mul_one])
def Cor(v u:Vx)(a b:Dx):Prop:=(a=v.lo∨a=v.hi)∧(b=u.lo∨b=u.hi)
theorem div_lo(v u:Vx)(p:Int){a b:Dx}(h:Cor v u a b):(Zx v u p).lo.rv≤(Qc a b p false).rv∧(Qc a b p true).rv≤(Zx v u p).hi.rv:=by
  obtain ⟨a1,a2,a3,a4,_⟩:=span4_lo (Qc v.lo u.lo p false) (Qc v.lo u.hi p false) (Qc v.hi u.lo p false) (Qc v.hi u.hi p false)
  obtain ⟨b1,b2,b3,b4,_⟩:=span4_hi (Qc v.lo u.lo p true) (Qc v.lo u.hi p true) (Qc v.hi u.lo p true) (Qc v.hi u.hi p true)
  obtain ⟨h1,h2⟩:=h
  rcases h1 with rfl | rfl<;>rcases h2 with rfl | rfl
  · exact ⟨a1,b1⟩
  · exact ⟨a2,b2⟩
  · exact ⟨a3,b3⟩
  · exact ⟨a4,b4⟩
theorem div_at(v u:Vx)(p:Int):(∃ a b,Cor v u a b∧(Zx v u p).lo=Qc a b p false)∧∃ a b,Cor v u a b∧(Zx v u p).hi=Qc a b p true:=by
  obtain ⟨_,_,_,_,a⟩:=span4_lo (Qc v.lo u.lo p false) (Qc v.lo u.hi p false) (Qc v.hi u.lo p false) (Qc v.hi u.hi p false)
  obtain ⟨_,_,_,_,b⟩:=span4_hi (Qc v.lo u.lo p true) (Qc v.lo u.hi p true) (Qc v.hi u.lo p true) (Qc v.hi u.hi p true)
  constructor
  · rcases a with a | a | a | a
    · exact ⟨_,_,⟨.inl rfl,.inl rfl⟩,a⟩
    · exact ⟨_,_,⟨.inl rfl,.inr rfl⟩,a⟩
    · exact ⟨_,_,⟨.inr rfl,.inl rfl⟩,a⟩
    · exact ⟨_,_,⟨.inr rfl,.inr rfl⟩,a⟩
  · rcases b with a | a | a | a
    · exact ⟨_,_,⟨.inl rfl,.inl rfl⟩,a⟩
    · exact ⟨_,_,⟨.inl rfl,.inr rfl⟩,a⟩
    · exact ⟨_,_,⟨.inr rfl,.inl rfl⟩,a⟩
    · exact ⟨_,_,⟨.inr rfl,.inr rfl⟩,a⟩
theorem Cor.best{v u:Vx}{a b:Dx}{p:Int}(h:Cor v u a b)(hv:v.P)(hu:u.P)(h0:Off0 u)(hle:u.lo.rv≤u.hi.rv)(hp:1≤p):b.rv≠0∧Dn p (a.rv*b.rv⁻¹) (Qc a b p false).rv∧Up p (a.rv*b.rv⁻¹) (Qc a b p true).rv:=by
  obtain ⟨h1,h2⟩:=h
  have hb:b.rv≠0:=by
    rcases h2 with rfl | rfl<;>unfold Off0 at h0<;>grind
  have ha:0≤a.m:=by rcases h1 with rfl | rfl;exact hv.1;exact hv.2
  have hbm:0≤b.m:=by rcases h2 with rfl | rfl;exact hu.1;exact hu.2
  exact ⟨hb,over_corner ha hbm hb hp⟩
theorem quo_corner{v u:Vx}{x y:Rat}(h0:Off0 u)(hx:InV v x)(hy:InV u y):(∃ a b,Cor v u a b∧a.rv*b.rv⁻¹≤x*y⁻¹)∧∃ a b,Cor v u a b∧x*y⁻¹≤a.rv*b.rv⁻¹:=by
  obtain ⟨i1,i2⟩:=inv_between hy.1 hy.2 h0
  constructor
  · obtain ⟨x0,y0,k1,k2,k3⟩:=corner_le hx.1 hx.2 i1 i2
    rcases k1 with rfl | rfl<;>rcases k2 with rfl | rfl
    · exact ⟨_,_,⟨.inl rfl,.inr rfl⟩,k3⟩
    · exact ⟨_,_,⟨.inl rfl,.inl rfl⟩,k3⟩
    · exact ⟨_,_,⟨.inr rfl,.inr rfl⟩,k3⟩
    · exact ⟨_,_,⟨.inr rfl,.inl rfl⟩,k3⟩
  · obtain ⟨x0,y0,k1,k2,k3⟩:=corner_ge hx.1 hx.2 i1 i2
    rcases k1 with rfl | rfl<;>rcases k2 with rfl | rfl
    · exact ⟨_,_,⟨.inl rfl,.inr rfl⟩,k3⟩
    · exact ⟨_,_,⟨.inl rfl,.inl rfl⟩,k3⟩
    · exact ⟨_,_,⟨.inr rfl,.inr rfl⟩,k3⟩
    · exact ⟨_,_,⟨.inr rfl,.inl rfl⟩,k3⟩
theorem div_in{v u:Vx}{x y:Rat}{p:Int}(hv:v.P)(hu:u.P)(h0:Off0 u)(hp:1≤p)(hx:InV v x)(hy:InV u y):InV (Zx v u p) (x*y⁻¹):=by
  have hle:u.lo.rv≤u.hi.rv:=by have:=hy.1;have:=hy.2;grind
  obtain ⟨⟨a,b,k1,k2⟩,c,d,k3,k4⟩:=quo_corner h0 hx hy
  have b1:=(k1.best hv hu h0 hle hp).2.1.2.1
  have b2:=(k3.best hv hu h0 hle hp).2.2.2.1
  have c1:=(div_lo v u p k1).1
  have c2:=(div_lo v u p k3).2
  exact ⟨by grind,by grind⟩
theorem Q9(v:Vx)(p:Int):(qV v p).P:=⟨Y8,Y8⟩
theorem quoV_p(v u:Vx)(p:Int)(up:Bool):(quoV v u p up).P:=span4_p overD_p overD_p overD_p overD_p
theorem divV_p(v u:Vx)(p:Int):(Zx v u p).P:=⟨(quoV_p v u p false).1,(quoV_p v u p true).2⟩
theorem lost_iff(n:Int)(k:Nat):Z6 n k=true↔n % 2^k≠0:=by unfold Z6;simp
def Fl(n:Int)(q:Rat):Prop:=(n:Rat)≤q∧q<(n:Rat)+1
def Ce(n:Int)(q:Rat):Prop:=q≤(n:Rat)∧(n:Rat)<q+1
theorem Fl.neg{n:Int}{q:Rat}(h:Fl n (-q)):Ce (-n) q:=by
  obtain ⟨h1,h2⟩:=h
  constructor
  · rw [Rat.intCast_neg];grind
  · rw [Rat.intCast_neg];grind
theorem Fl.nonneg{n:Int}{q:Rat}(h:Fl n q)(hq:0≤q):0≤n:=by
  have h2:=h.2
  have e:(n:Rat)+1=((n+1:Int):Rat):=by rw [rcA];rfl
  have:((0:Int):Rat)<((n+1:Int):Rat):=by rw [←e];show (0:Rat)<_;grind
  have:=QA.1 this
  omega
theorem Ce.nonneg{n:Int}{q:Rat}(h:Ce n q)(hq:0≤q):0≤n:=by
  have:((0:Int):Rat)≤(n:Rat):=by show (0:Rat)≤_;have:=h.1;grind
  exact zG.1 this
theorem amt_split(m:Int)(k:Nat):(m:Rat)*p2 (-(k:Int))=((m/2^k:Int):Rat)+((m % 2^k:Int):Rat)*p2 (-(k:Int)):=by
  have p:=two_pow_pos k
  have h:=Int.mul_ediv_add_emod m (2^k)
  have e:p2 (k:Int)=((2^k:Int):Rat):=p2_nat k
  have i:=p2_neg (k:Int)
  conv=>lhs;lhs;rw [←h]
  rw [rcA,rcM,←e]
  grind
theorem fl_amt{m:Int}(k:Nat):Fl (m/2^k) ((m:Rat)*p2 (-(k:Int)))∧Ce (m/2^k+if Z6 m k=true then 1 else 0) ((m:Rat)*p2 (-(k:Int))):=by
  have p:=two_pow_pos k
  have e:p2 (k:Int)=((2^k:Int):Rat):=p2_nat k
  have i:=p2_neg (k:Int)
  have m0:=Int.emod_nonneg m (show (2:Int)^k≠0 by omega)
  have m1:=Int.emod_lt_of_pos m p
  have q0:=qL (-(k:Int))
  have c0:(0:Rat)≤((m % 2^k:Int):Rat):=zG.2 m0
  have c1:((m % 2^k:Int):Rat)<p2 (k:Int):=by rw [e];exact QA.2 m1
  have l1:=Rat.mul_lt_mul_of_pos_right c1 q0
  have l0:=rmN c0 (rlL q0)
  rw [amt_split]
  refine ⟨⟨by grind,by grind⟩,?_⟩
  by_cases hl:m % 2^k=0
  · rw [if_neg (by rw [lost_iff];simpa using hl),hl,Int.add_zero]
    have z:((0:Int):Rat)=0:=rfl
    exact ⟨by grind,by grind⟩
  · rw [if_pos (by rw [lost_iff];exact hl)]
    have ad:((m/2^k+1:Int):Rat)=((m/2^k:Int):Rat)+1:=rcA _ _
    have c2:(1:Rat)≤((m % 2^k:Int):Rat):=zG.2 (show (1:Int)≤_ by omega)
    have l2:=Rat.mul_pos (show (0:Rat)<((m % 2^k:Int):Rat) by grind) q0
    exact ⟨by rw [ad];grind,by rw [ad];grind⟩
theorem fl_int(n:Int):Fl n (n:Rat)∧Ce n (n:Rat):=⟨⟨by grind,by grind⟩,by grind,by grind⟩
theorem floorD_rv{d:Dx}(hd:0≤d.m):∃ n:Int,(qX d).rv=(n:Rat)∧Fl n d.rv:=by
  have m0:0≤(qC d).m:=zZ
  have hr:=Qs hd
  unfold qX
  split
  · rename_i h
    have e:(qC d).rv=(((qC d).sm*2^(qC d).e.toNat:Int):Rat):=by
      unfold Dx.rv;rw [zU h,rcM]
    refine ⟨_,e,?_⟩
    rw [←hr,e];exact (fl_int _).1
  · rename_i h
    have p:=two_pow_pos (-(qC d).e).toNat
    have q0:0≤(qC d).m/2^(-(qC d).e).toNat:=Int.ediv_nonneg m0 (by omega)
    have ee:p2 (qC d).e=p2 (-((-(qC d).e).toNat:Int)):=by congr 1;omega
    have f:=fl_amt (m:=(qC d).m) (-(qC d).e).toNat
    rw [Y9 (by split<;>omega),ZX,Rat.mul_one,←hr,sm_amt]
    cases hn:(qC d).neg with
    | false =>
      refine ⟨_,rfl,?_⟩
      rw [Bool.and_false,if_neg (by simp),if_neg (by simp),if_neg (by simp),Int.add_zero,ee,Rat.one_mul]
      exact f.1
    | true =>
      refine ⟨_,rfl,?_⟩
      rw [Bool.and_true,if_pos rfl,if_pos rfl,ee]
      obtain ⟨f1,f2⟩:=f.2
      constructor
      · rw [Rat.intCast_neg];grind
      · rw [Rat.intCast_neg];grind
theorem wholeI_rv{d:Dx}(hd:0≤d.m)(he:0≤d.e)(h:0≤d.rv):(wholeI d:Rat)=d.rv:=by
  rw [(QX hd).1 h,zU he];unfold wholeI;rw [rcM]
def Fx2(z:Fx)(lo hi:Rat):Prop:=Fl z.a lo∧Ce (z.a+z.e) hi
theorem Fx2.in{z:Fx}{q:Int}{l h r:Rat}(k:Fx2 z (l*p2 q) (h*p2 q))(l0:0≤l)(h1:l≤r)(h2:r≤h):InF q z r:=by
  obtain ⟨k1,k2⟩:=k
  have p:=qL q
  have a1:=rmR h1 (rlL p)
  have a2:=rmR h2 (rlL p)
  have l1:=rmN l0 (rlL p)
  have z0:=k1.nonneg l1
  refine ⟨z0,?_,by have:=k1.1;grind,by have:=k2.1;grind⟩
  have:((z.a:Int):Rat)≤((z.a+z.e:Int):Rat):=by have:=k1.1;have:=k2.1;grind
  have:=zG.1 this
  omega
theorem Fx2.e_le{z:Fx}{lo hi c:Rat}{n:Int}(k:Fx2 z lo hi)(h:hi-lo≤c)(hc:c+2≤(n:Rat)):z.e<n:=by
  obtain ⟨k1,k2⟩:=k
  have e:((z.a+z.e:Int):Rat)=(z.a:Rat)+(z.e:Rat):=rcA _ _
  exact QA.1 (by have:=k1.2;have:=k2.2;grind)
theorem fromF_2{v:Vx}{q:Int}(hv:v.P)(h0:0≤v.lo.rv)(h1:0≤v.hi.rv):Fx2 (Zj v q) (v.lo.rv*p2 q) (v.hi.rv*p2 q):=by
  obtain ⟨n,n1,n2⟩:=floorD_rv (d:=zC v.lo q) shiftD_p
  obtain ⟨m,m1,m2⟩:=floorD_rv (d:=ZO (zC v.hi q)) YQ
  rw [Z7 hv.1] at n2
  rw [rv_neg shiftD_p,Z7 hv.2] at m2
  have p:=rlL (qL q)
  have l0:=rmN h0 p
  have l1:=rmN h1 p
  have n0:=n2.nonneg l0
  have c:=m2.neg
  have c0:=c.nonneg l1
  have w1:wholeI (qX (zC v.lo q))=n:=by
    have:=wholeI_rv (d:=qX (zC v.lo q)) Y2 floorD_e (by rw [n1];exact zG.2 n0)
    rw [n1] at this;exact Rat.intCast_inj.1 this
  have rn:(ZO (qX (ZO (zC v.hi q)))).rv=((-m:Int):Rat):=by rw [rv_neg Y2,m1,Rat.intCast_neg]
  have w2:wholeI (ZO (qX (ZO (zC v.hi q)))) = -m:=by
    have:=wholeI_rv (d:=ZO (qX (ZO (zC v.hi q)))) YQ (negD_e0 floorD_e) (by rw [rn];exact zG.2 c0)
    rw [rn] at this;exact Rat.intCast_inj.1 this
  unfold Fx2 Zj btwF
  rw [w1,w2]
  refine ⟨n2,?_⟩
  show Ce (n+(-m-n)) _
  rw [show n+(-m-n) = -m by omega];exact c
theorem from9_2{d:Dx}{q:Int}(hd:0≤d.m)(h0:0≤d.rv):Fx2 (QD d q) (d.rv*p2 q) (d.rv*p2 q):=by
  have e:d.rv*p2 q=(d.m:Rat)*p2 (d.e+q):=by rw [(QX hd).1 h0,Qb,Rat.mul_assoc]
  rw [e]
  unfold QD
  split
  · rename_i h
    have e2:(d.m:Rat)*p2 (d.e+q)=((d.m*2^(d.e+q).toNat:Int):Rat):=by rw [zU h,rcM]
    rw [e2]
    refine ⟨(fl_int _).1,?_⟩
    show Ce (_+0) _
    rw [Int.add_zero];exact (fl_int _).2
  · rename_i h
    rw [show d.e+q = -((-d.e-q).toNat:Int) by omega]
    exact fl_amt _
theorem fix11_2{v:Vx}{q:Int}(hv:v.P)(h0:0≤v.lo.rv)(h1:0≤v.hi.rv):Fx2 (ZI v q) (v.lo.rv*p2 q) (v.hi.rv*p2 q):=by
  have a:=(from9_2 (q:=q) hv.1 h0).1
  have b:=(from9_2 (q:=q) hv.2 h1).2
  refine ⟨a,?_⟩
  unfold ZI btwF
  show Ce ((QD v.lo q).a+((QD v.hi q).a+(QD v.hi q).e-(QD v.lo q).a)) _
  rw [show (QD v.lo q).a+((QD v.hi q).a+(QD v.hi q).e-(QD v.lo q).a)=(QD v.hi q).a+(QD v.hi q).e by omega]
  exact b
theorem dn_up_gap{p:Int}{q r r':Rat}(hp:1≤p)(h:Dn p q r)(k:Up p q r')(hq:0≤q):0≤r∧r' - r≤2*eps p*q:=by
  have z:=h.2.2 0 (Rp.zero p) hq
  refine ⟨z,?_⟩
  rcases (show q=0∨0<q by grind) with e | e
  · subst e
    have:=k.2.2 0 (Rp.zero p) Rat.le_refl
    grind
  · have:=(h.rel hp e).1
    have:=k.rel hp e
    grind
section
variable {t:Dx}
theorem zJ(d:Dx):(qD d).P:=⟨zZ,zZ⟩
theorem sq_prod(ht:0≤t.m):(prodV (qD t) (qD t)).lo.rv=t.rv*t.rv∧(prodV (qD t) (qD t)).hi.rv=t.rv*t.rv:=by
  have e1:(qD t).lo.rv=t.rv:=Qs ht
  have e2:(qD t).hi.rv=t.rv:=Qs ht
  obtain ⟨⟨x,y,hx,hy,h⟩,x',y',hx',hy',h'⟩:=prod_at (zJ t) (zJ t)
  rw [e1,e2] at hx hy hx' hy'
  have a:∀ z,z=t.rv∨z=t.rv→z=t.rv:=fun z hz=>by rcases hz with h | h<;>exact h
  rw [h,h',a x hx,a y hy,a x' hx',a y' hy']
  exact ⟨rfl,rfl⟩
abbrev sqV(t:Dx)(p:Int):Vx:=qK (qD t) (qD t) p
theorem sqV_best(ht:0≤t.m){p:Int}(hp:1≤p):Dn p (t.rv*t.rv) (sqV t p).lo.rv∧Up p (t.rv*t.rv) (sqV t p).hi.rv:=by
  have h:=times_best hp (zJ t) (zJ t)
  rwa [(sq_prod ht).1,(sq_prod ht).2] at h
theorem sqr_nonneg(a:Rat):0≤a*a:=by
  rcases (show 0≤a∨0≤-a by grind) with h | h
  · exact rmN h h
  · have:=rmN h h;grind
theorem Xl{a:Rat}(h1:a≤1)(h2:-1≤a):a*a≤1:=by
  have:=rmN (show 0≤1-a by grind) (show 0≤1+a by grind)
  grind
theorem trim_same{v:Vx}{p:Int}(hv:v.P)(hp:1≤p){x y:Rat}(h1:Dn p x v.lo.rv)(h2:Up p y v.hi.rv):(qV v p).lo.rv=v.lo.rv∧(qV v p).hi.rv=v.hi.rv:=by
  have h:=Zr hv hp
  exact ⟨h.1.uniq (Dn.self h1.1),h.2.uniq (Up.self h2.1)⟩
theorem eps_p2(p w:Int):eps p*p2 w=p2 (1-p+w):=by unfold eps;rw [Qb]
def sqS(t:Dx)(w:Int):Fx:=Zj (qV (sqV t (w+8)) (w+8)) w
def sqR(t:Dx)(q:Int):Fx:=ZI (sqV t q) q
theorem sqS_alt(ht:0≤t.m)(h1:t.rv≤1)(h2:-1≤t.rv){f:Nat}(f1:1≤f)(f2:f≤2){w:Int}(w0:32≤w)(w1:w≤65536):Alt f (sqS t w) w (t.rv*t.rv):=by
  have x0:=sqr_nonneg t.rv
  have x1:=Xl h1 h2
  have hp:1≤w+8:=by omega
  obtain ⟨b1,b2⟩:=sqV_best ht hp
  obtain ⟨g1,g2⟩:=dn_up_gap hp b1 b2 x0
  have P:(sqV t (w+8)).P:=Q9 _ _
  obtain ⟨e1,e2⟩:=trim_same P hp b1 b2
  have F:=fromF_2 (v:=qV (sqV t (w+8)) (w+8)) (q:=w) (Q9 _ _) (by rw [e1];exact g1) (by rw [e2];have:=b2.2.1;grind)
  rw [e1,e2] at F
  refine ⟨f1,f2,w0,w1,F.in g1 b1.2.1 b2.2.1,?_,x0,x1⟩
  have:=F.e_le (c:=1) (n:=3) (by
    have p0:=qL w
    have m1:=rmR g2 (rlL p0)
    have m2:=rmL x1 (rmN (rlL (Yf (w+8))) (rlL p0))
    have e:eps (w+8)*p2 w=p2 (-7):=by rw [eps_p2];congr 1;omega
    have e7:p2 (-7)≤p2 (-1):=Qz (by omega)
    have e8:2*p2 (-1)=1:=by have:=p2_neg 1;rw [p2_one] at this;grind
    grind) (by show (1:Rat)+2≤3;grind)
  show (sqS t w).e≤16
  have:(sqS t w).e<3:=this
  omega
theorem sqR_alt(ht:0≤t.m)(h1:t.rv≤1)(h2:-1≤t.rv){f:Nat}(f1:1≤f)(f2:f≤2){w:Int}(w0:32≤w)(w1:w≤65536):Alt f (sqR t w) w (t.rv*t.rv):=by
  have x0:=sqr_nonneg t.rv
  have x1:=Xl h1 h2
  have hp:1≤w:=by omega
  obtain ⟨b1,b2⟩:=sqV_best ht hp
  obtain ⟨g1,g2⟩:=dn_up_gap hp b1 b2 x0
  have P:(sqV t w).P:=Q9 _ _
  have F:=fix11_2 (v:=sqV t w) (q:=w) P g1 (by have:=b2.2.1;grind)
  refine ⟨f1,f2,w0,w1,F.in g1 b1.2.1 b2.2.1,?_,x0,x1⟩
  have:=F.e_le (c:=4) (n:=6) (by
    have p0:=qL w
    have m1:=rmR g2 (rlL p0)
    have m2:=rmL x1 (rmN (rlL (Yf w)) (rlL p0))
    have e:eps w*p2 w=2:=by rw [eps_p2,show 1-w+w=1 by omega,p2_one]
    grind) (by show (4:Rat)+2≤6;grind)
  show (sqR t w).e≤16
  have:(sqR t w).e<6:=this
  omega
theorem Alt.sqOk{f:Nat}{sq:Fx}{w:Int}{x:Rat}(h:Alt f sq w x):sq.Ok:=by
  have a:=h.hsq.le_one (by have:=h.w0;omega) h.x1
  have:=QN a
  have w1:=h.w1
  have w0:=h.w0
  have:=h.he
  exact ⟨h.hsq.a0,by omega,h.hsq.e0,by omega⟩
end
def altV(f:Nat)(t:Dx)(w:Int):Vx:=ivF (altD f (sqS t w) w (altK f (sqS t w) w) ((ZS f (sqS t w) w (altK f (sqS t w) w)).e+8)) w
def altR(f:Nat)(t:Dx)(w:Int):Vx:=ivF (altD f (sqR t w) w (altK f (sqR t w) w+1) 4) w
structure AltIv (f:Nat) (t:Dx) (w:Int) (v:Vx):Prop where
  p:v.P
  enc:Enc (altS f (t.rv*t.rv)) v.lo.rv v.hi.rv
  lo:1≤4*v.lo.rv
  hi:v.hi.rv≤3
  wide:v.hi.rv-v.lo.rv≤p2 (22-w)
  bits:∃ a b:Int,0≤a∧a≤3*2^w.toNat∧0≤b∧b≤3*2^w.toNat∧v=⟨mkD false a (-w),mkD false b (-w)⟩
theorem altIv_of{f:Nat}{t:Dx}{sq:Fx}{w:Int}{K:Nat}{c:Int}(h:Alt f sq w (t.rv*t.rv))(hK:1≤K)(hK1:(K:Int)≤w+2)(c0:0≤c)(c1:c≤32)(hc:12*(tmf f (t.rv*t.rv) K*p2 w)≤11*(c:Rat)) :
    AltIv f t w (ivF (altD f sq w K c) w):=by
  obtain ⟨b1,b2,b3,b4⟩:=altD_bd h hK hK1 c0 c1
  have E:=altD_enc h hK hc
  have w0:=h.w0
  have P:=two_pow_pos w.toNat
  generalize altD f sq w K c=z at *
  have r1:(ivF z w).lo.rv=(z.a:Rat)*p2 (-w):=by
    show (mkD false z.a (-w)).rv=_;rw [Y9 (by omega)];rfl
  have r2:(ivF z w).hi.rv=((z.a+z.e:Int):Rat)*p2 (-w):=by
    show (mkD false (z.a+z.e) (-w)).rv=_;rw [Y9 (by omega)];rfl
  have pw:p2 w=((2^w.toNat:Int):Rat):=zU (by omega)
  have q:=qL w
  refine ⟨⟨mkD_p,mkD_p⟩,by rw [r1,r2];exact E,?_,?_,?_,z.a,z.a+z.e,by omega,by omega,by omega,b4,rfl⟩
  · rw [r1,←Qo w]
    have e:4*((z.a:Rat)*p2 (-w))*p2 w=((4*z.a:Int):Rat):=by
      rw [Rat.mul_assoc,div_p2,rcM];rfl
    rw [e,Rat.one_mul,pw];exact zG.2 b1
  · rw [r2,←Qo w,div_p2,pw]
    have:((z.a+z.e:Int):Rat)≤((3*2^w.toNat:Int):Rat):=zG.2 b4
    rw [rcM] at this;exact this
  · rw [r1,r2,←Qo w]
    have e:(((z.a+z.e:Int):Rat)*p2 (-w)-(z.a:Rat)*p2 (-w))*p2 w=(z.e:Rat):=by
      have h1:=div_p2 (z.a+z.e) w
      have h2:=div_p2 z.a w
      rw [rcA] at h1 ⊢
      grind
    rw [e,←Qb,show 22-w+w=22 by omega,zU (by omega)]
    exact zG.2 (show z.e≤2^(22:Int).toNat from by have:(2:Int)^(22:Int).toNat=4194304:=rfl;omega)
theorem altV_iv{f:Nat}{t:Dx}{w:Int}(h:Alt f (sqS t w) w (t.rv*t.rv)):AltIv f t w (altV f t w):=by
  obtain ⟨k1,k2,k3,k4⟩:=Xc h
  have e0:=(Zz h (altK f (sqS t w) w)).e0
  have e1:=altT_e h (altK f (sqS t w) w)
  refine altIv_of h k1 (by omega) (by omega) (by omega) ?_
  have a:=(Zz h (altK f (sqS t w) w)).2.2.2
  rw [k3,Int.zero_add] at a
  rw [rcA]
  have c1:=zG.2 e1
  have z:((16:Int):Rat)=16:=rfl
  have z8:((8:Int):Rat)=8:=rfl
  grind
theorem altR_iv{f:Nat}{t:Dx}{w:Int}(h:Alt f (sqR t w) w (t.rv*t.rv)):AltIv f t w (altR f t w):=by
  obtain ⟨k1,k2,k3,k4⟩:=Xc h
  refine altIv_of h (by omega) (by omega) (by omega) (by omega) ?_
  have a:=tmf_end h
  have b:=tmf_twelve h.f1 h.x0 h.x1 k1
  have:=rmR b (rlL (qL w))
  have z:((4:Int):Rat)=4:=rfl
  grind
def spK6:LKeep:=⟨[0,4,3,2],[(0,6),(8,6)],11⟩
def spSt6(cs:List At)(j:Int)(v:Vx):List (Nat×Tv)×List (Nat×Nat×At) :=
  ([(0,.sv (.one (.rows false 3 4 cs))),(4,iT j),(3,.sv (.one (.ptr 8 0))),(2,.sv (.one (.ptr 0 0)))],
   [(0,0,.bool false),(0,1,.words true []),(0,2,.int .i64 0),(0,3,.bool false),(0,4,.words true []),(0,5,.int .i64 0),(8,0,.bool v.lo.neg),(8,1,.words false v.lo.xs),(8,2,.int .i64 v.lo.e),(8,3,.bool v.hi.neg),(8,4,.words false v.hi.xs),(8,5,.int .i64 v.hi.e)])
def c4(a b c d:Dx):List At:=dyL false a ++ (dyL false b ++ (dyL false c ++ dyL false d))
theorem gSpan_vc(a b c d:Dx)(v1 v2 v3:Vx)(Q:Tv→Prop):qH ⟨tys2,sRef4⟩ (invAt 3 (.cuts spK6 [spSt6 (c4 a b c d) 1 ⟨a,a⟩,spSt6 (c4 a b c d) 2 v1,spSt6 (c4 a b c d) 3 v2,spSt6 (c4 a b c d) 4 v3])) 0 Tryz.f62 [.one (.rows false 3 4 (c4 a b c d))] Q=(((0:Int)≤0∧(0:Int)<(↑(4:Nat):Int))∧((0:Int)≤0∧(0:Int)<(↑(4:Nat):Int))∧true=true∧true=true∧Sg.mk [(0,Tv.sv (Sv.one (At.rows false 3 4 (At.bool a.neg :: At.words false a.xs :: At.int .i64 a.e :: At.bool b.neg :: At.words false b.xs :: At.int .i64 b.e :: ivL false (Vx.mk c d))))),(4,iT 1),(3,Tv.sv (Sv.one (At.ptr ((1:Nat)+7) 0))),(2,Tv.sv (Sv.one (At.ptr 0 0)))] [(0,0,At.bool false),(0,1,At.words true []),(0,2,At.int .i64 0),(0,3,At.bool false),(0,4,At.words true []),(0,5,At.int .i64 0),(8,0,At.bool a.neg),(8,1,At.words false a.xs),(8,2,At.int .i64 a.e),(8,3,At.bool a.neg),(8,4,At.words false a.xs),(8,5,At.int .i64 a.e)] 11=Sg.mk [(0,Tv.sv (Sv.one (At.rows false 3 4 (At.bool a.neg :: At.words false a.xs :: At.int .i64 a.e :: At.bool b.neg :: At.words false b.xs :: At.int .i64 b.e :: ivL false (Vx.mk c d))))),(4,iT 1),(3,Tv.sv (Sv.one (At.ptr 8 0))),(2,Tv.sv (Sv.one (At.ptr 0 0)))] [(0,0,At.bool false),(0,1,At.words true []),(0,2,At.int .i64 0),(0,3,At.bool false),(0,4,At.words true []),(0,5,At.int .i64 0),(8,0,At.bool a.neg),(8,1,At.words false a.xs),(8,2,At.int .i64 a.e),(8,3,At.bool a.neg),(8,4,At.words false a.xs),(8,5,At.int .i64 a.e)] 11∧(((0:Int)≤1∧(1:Int)<(↑(4:Nat):Int))∧(Dx.Sm 34359738368 b∧Dx.Sm 34359738368 a)∧true=true∧br (ltI (QJ b a) 0) (((0:Int)≤1∧(1:Int)<(↑(4:Nat):Int))∧((0:Int)≤1∧(1:Int)<(↑(4:Nat):Int))∧(Dx.Sm 34359738368 b∧Dx.Sm 34359738368 a)∧true=true∧br (ltI 0 (QJ b a)) (((0:Int)≤1∧(1:Int)<(↑(4:Nat):Int))∧inR ((1:Int)+1)∧true=true∧Sg.mk [(0,Tv.sv (Sv.one (At.rows false 3 4 (At.bool a.neg :: At.words false a.xs :: At.int .i64 a.e :: At.bool b.neg :: At.words false b.xs :: At.int .i64 b.e :: ivL false (Vx.mk c d))))),(4,iT ((1:Int)+1)),(3,Tv.sv (Sv.one (At.ptr 8 0))),(2,Tv.sv (Sv.one (At.ptr 0 0)))] [(0,0,At.bool false),(0,1,At.words true []),(0,2,At.int .i64 0),(0,3,At.bool false),(0,4,At.words true []),(0,5,At.int .i64 0),(8,0,At.bool b.neg),(8,1,At.words false b.xs),(8,2,At.int .i64 b.e),(8,3,At.bool b.neg),(8,4,At.words false b.xs),(8,5,At.int .i64 b.e)] 11=Sg.mk [(0,Tv.sv (Sv.one (At.rows false 3 4 (At.bool a.neg :: At.words false a.xs :: At.int .i64 a.e :: At.bool b.neg :: At.words false b.xs :: At.int .i64 b.e :: ivL false (Vx.mk c d))))),(4,iT 2),(3,Tv.sv (Sv.one (At.ptr 8 0))),(2,Tv.sv (Sv.one (At.ptr 0 0)))] [(0,0,At.bool false),(0,1,At.words true []),(0,2,At.int .i64 0),(0,3,At.bool false),(0,4,At.words true []),(0,5,At.int .i64 0),(8,0,At.bool v1.lo.neg),(8,1,At.words false v1.lo.xs),(8,2,At.int .i64 v1.lo.e),(8,3,At.bool v1.hi.neg),(8,4,At.words false v1.hi.xs),(8,5,At.int .i64 v1.hi.e)] 11) (inR ((1:Int)+1)∧true=true∧Sg.mk [(0,Tv.sv (Sv.one (At.rows false 3 4 (At.bool a.neg :: At.words false a.xs :: At.int .i64 a.e :: At.bool b.neg :: At.words false b.xs :: At.int .i64 b.e :: ivL false (Vx.mk c d))))),(4,iT ((1:Int)+1)),(3,Tv.sv (Sv.one (At.ptr 8 0))),(2,Tv.sv (Sv.one (At.ptr 0 0)))] [(0,0,At.bool false),(0,1,At.words true []),(0,2,At.int .i64 0),(0,3,At.bool false),(0,4,At.words true []),(0,5,At.int .i64 0),(8,0,At.bool b.neg),(8,1,At.words false b.xs),(8,2,At.int .i64 b.e),(8,3,At.bool a.neg),(8,4,At.words false a.xs),(8,5,At.int .i64 a.e)] 11=Sg.mk [(0,Tv.sv (Sv.one (At.rows false 3 4 (At.bool a.neg :: At.words false a.xs :: At.int .i64 a.e :: At.bool b.neg :: At.words false b.xs :: At.int .i64 b.e :: ivL false (Vx.mk c d))))),(4,iT 2),(3,Tv.sv (Sv.one (At.ptr 8 0))),(2,Tv.sv (Sv.one (At.ptr 0 0)))] [(0,0,At.bool false),(0,1,At.words true []),(0,2,At.int .i64 0),(0,3,At.bool false),(0,4,At.words true []),(0,5,At.int .i64 0),(8,0,At.bool v1.lo.neg),(8,1,At.words false v1.lo.xs),(8,2,At.int .i64 v1.lo.e),(8,3,At.bool v1.hi.neg),(8,4,At.words false v1.hi.xs),(8,5,At.int .i64 v1.hi.e)] 11)) (((0:Int)≤1∧(1:Int)<(↑(4:Nat):Int))∧(Dx.Sm 34359738368 b∧Dx.Sm 34359738368 a)∧true=true∧br (ltI 0 (QJ b a)) (((0:Int)≤1∧(1:Int)<(↑(4:Nat):Int))∧inR ((1:Int)+1)∧true=true∧Sg.mk [(0,Tv.sv (Sv.one (At.rows false 3 4 (At.bool a.neg :: At.words false a.xs :: At.int .i64 a.e :: At.bool b.neg :: At.words false b.xs :: At.int .i64 b.e :: ivL false (Vx.mk c d))))),(4,iT ((1:Int)+1)),(3,Tv.sv (Sv.one (At.ptr 8 0))),(2,Tv.sv (Sv.one (At.ptr 0 0)))] [(0,0,At.bool false),(0,1,At.words true []),(0,2,At.int .i64 0),(0,3,At.bool false),(0,4,At.words true []),(0,5,At.int .i64 0),(8,0,At.bool a.neg),(8,1,At.words false a.xs),(8,2,At.int .i64 a.e),(8,3,At.bool b.neg),(8,4,At.words false b.xs),(8,5,At.int .i64 b.e)] 11=Sg.mk [(0,Tv.sv (Sv.one (At.rows false 3 4 (At.bool a.neg :: At.words false a.xs :: At.int .i64 a.e :: At.bool b.neg :: At.words false b.xs :: At.int .i64 b.e :: ivL false (Vx.mk c d))))),(4,iT 2),(3,Tv.sv (Sv.one (At.ptr 8 0))),(2,Tv.sv (Sv.one (At.ptr 0 0)))] [(0,0,At.bool false),(0,1,At.words true []),(0,2,At.int .i64 0),(0,3,At.bool false),(0,4,At.words true []),(0,5,At.int .i64 0),(8,0,At.bool v1.lo.neg),(8,1,At.words false v1.lo.xs),(8,2,At.int .i64 v1.lo.e),(8,3,At.bool v1.hi.neg),(8,4,At.words false v1.hi.xs),(8,5,At.int .i64 v1.hi.e)] 11) (inR ((1:Int)+1)∧true=true∧Sg.mk [(0,Tv.sv (Sv.one (At.rows false 3 4 (At.bool a.neg :: At.words false a.xs :: At.int .i64 a.e :: At.bool b.neg :: At.words false b.xs :: At.int .i64 b.e :: ivL false (Vx.mk c d))))),(4,iT ((1:Int)+1)),(3,Tv.sv (Sv.one (At.ptr 8 0))),(2,Tv.sv (Sv.one (At.ptr 0 0)))] [(0,0,At.bool false),(0,1,At.words true []),(0,2,At.int .i64 0),(0,3,At.bool false),(0,4,At.words true []),(0,5,At.int .i64 0),(8,0,At.bool a.neg),(8,1,At.words false a.xs),(8,2,At.int .i64 a.e),(8,3,At.bool a.neg),(8,4,At.words false a.xs),(8,5,At.int .i64 a.e)] 11=Sg.mk [(0,Tv.sv (Sv.one (At.rows false 3 4 (At.bool a.neg :: At.words false a.xs :: At.int .i64 a.e :: At.bool b.neg :: At.words false b.xs :: At.int .i64 b.e :: ivL false (Vx.mk c d))))),(4,iT 2),(3,Tv.sv (Sv.one (At.ptr 8 0))),(2,Tv.sv (Sv.one (At.ptr 0 0)))] [(0,0,At.bool false),(0,1,At.words true []),(0,2,At.int .i64 0),(0,3,At.bool false),(0,4,At.words true []),(0,5,At.int .i64 0),(8,0,At.bool v1.lo.neg),(8,1,At.words false v1.lo.xs),(8,2,At.int .i64 v1.lo.e),(8,3,At.bool v1.hi.neg),(8,4,At.words false v1.hi.xs),(8,5,At.int .i64 v1.hi.e)] 11)))∧(((0:Int)≤2∧(2:Int)<(↑(4:Nat):Int))∧(Dx.Sm 34359738368 c∧Dx.Sm 34359738368 v1.lo)∧true=true∧br (ltI (QJ c v1.lo) 0) (((0:Int)≤2∧(2:Int)<(↑(4:Nat):Int))∧((0:Int)≤2∧(2:Int)<(↑(4:Nat):Int))∧(Dx.Sm 34359738368 c∧Dx.Sm 34359738368 v1.hi)∧true=true∧br (ltI 0 (QJ c v1.hi)) (((0:Int)≤2∧(2:Int)<(↑(4:Nat):Int))∧inR ((2:Int)+1)∧true=true∧Sg.mk [(0,Tv.sv (Sv.one (At.rows false 3 4 (At.bool a.neg :: At.words false a.xs :: At.int .i64 a.e :: At.bool b.neg :: At.words false b.xs :: At.int .i64 b.e :: ivL false (Vx.mk c d))))),(4,iT ((2:Int)+1)),(3,Tv.sv (Sv.one (At.ptr 8 0))),(2,Tv.sv (Sv.one (At.ptr 0 0)))] [(0,0,At.bool false),(0,1,At.words true []),(0,2,At.int .i64 0),(0,3,At.bool false),(0,4,At.words true []),(0,5,At.int .i64 0),(8,0,At.bool c.neg),(8,1,At.words false c.xs),(8,2,At.int .i64 c.e),(8,3,At.bool c.neg),(8,4,At.words false c.xs),(8,5,At.int .i64 c.e)] 11=Sg.mk [(0,Tv.sv (Sv.one (At.rows false 3 4 (At.bool a.neg :: At.words false a.xs :: At.int .i64 a.e :: At.bool b.neg :: At.words false b.xs :: At.int .i64 b.e :: ivL false (Vx.mk c d))))),(4,iT 3),(3,Tv.sv (Sv.one (At.ptr 8 0))),(2,Tv.sv (Sv.one (At.ptr 0 0)))] [(0,0,At.bool false),(0,1,At.words true []),(0,2,At.int .i64 0),(0,3,At.bool false),(0,4,At.words true []),(0,5,At.int .i64 0),(8,0,At.bool v2.lo.neg),(8,1,At.words false v2.lo.xs),(8,2,At.int .i64 v2.lo.e),(8,3,At.bool v2.hi.neg),(8,4,At.words false v2.hi.xs),(8,5,At.int .i64 v2.hi.e)] 11) (inR ((2:Int)+1)∧true=true∧Sg.mk [(0,Tv.sv (Sv.one (At.rows false 3 4 (At.bool a.neg :: At.words false a.xs :: At.int .i64 a.e :: At.bool b.neg :: At.words false b.xs :: At.int .i64 b.e :: ivL false (Vx.mk c d))))),(4,iT ((2:Int)+1)),(3,Tv.sv (Sv.one (At.ptr 8 0))),(2,Tv.sv (Sv.one (At.ptr 0 0)))] [(0,0,At.bool false),(0,1,At.words true []),(0,2,At.int .i64 0),(0,3,At.bool false),(0,4,At.words true []),(0,5,At.int .i64 0),(8,0,At.bool c.neg),(8,1,At.words false c.xs),(8,2,At.int .i64 c.e),(8,3,At.bool v1.hi.neg),(8,4,At.words false v1.hi.xs),(8,5,At.int .i64 v1.hi.e)] 11=Sg.mk [(0,Tv.sv (Sv.one (At.rows false 3 4 (At.bool a.neg :: At.words false a.xs :: At.int .i64 a.e :: At.bool b.neg :: At.words false b.xs :: At.int .i64 b.e :: ivL false (Vx.mk c d))))),(4,iT 3),(3,Tv.sv (Sv.one (At.ptr 8 0))),(2,Tv.sv (Sv.one (At.ptr 0 0)))] [(0,0,At.bool false),(0,1,At.words true []),(0,2,At.int .i64 0),(0,3,At.bool false),(0,4,At.words true []),(0,5,At.int .i64 0),(8,0,At.bool v2.lo.neg),(8,1,At.words false v2.lo.xs),(8,2,At.int .i64 v2.lo.e),(8,3,At.bool v2.hi.neg),(8,4,At.words false v2.hi.xs),(8,5,At.int .i64 v2.hi.e)] 11)) (((0:Int)≤2∧(2:Int)<(↑(4:Nat):Int))∧(Dx.Sm 34359738368 c∧Dx.Sm 34359738368 v1.hi)∧true=true∧br (ltI 0 (QJ c v1.hi)) (((0:Int)≤2∧(2:Int)<(↑(4:Nat):Int))∧inR ((2:Int)+1)∧true=true∧Sg.mk [(0,Tv.sv (Sv.one (At.rows false 3 4 (At.bool a.neg :: At.words false a.xs :: At.int .i64 a.e :: At.bool b.neg :: At.words false b.xs :: At.int .i64 b.e :: ivL false (Vx.mk c d))))),(4,iT ((2:Int)+1)),(3,Tv.sv (Sv.one (At.ptr 8 0))),(2,Tv.sv (Sv.one (At.ptr 0 0)))] [(0,0,At.bool false),(0,1,At.words true []),(0,2,At.int .i64 0),(0,3,At.bool false),(0,4,At.words true []),(0,5,At.int .i64 0),(8,0,At.bool v1.lo.neg),(8,1,At.words false v1.lo.xs),(8,2,At.int .i64 v1.lo.e),(8,3,At.bool c.neg),(8,4,At.words false c.xs),(8,5,At.int .i64 c.e)] 11=Sg.mk [(0,Tv.sv (Sv.one (At.rows false 3 4 (At.bool a.neg :: At.words false a.xs :: At.int .i64 a.e :: At.bool b.neg :: At.words false b.xs :: At.int .i64 b.e :: ivL false (Vx.mk c d))))),(4,iT 3),(3,Tv.sv (Sv.one (At.ptr 8 0))),(2,Tv.sv (Sv.one (At.ptr 0 0)))] [(0,0,At.bool false),(0,1,At.words true []),(0,2,At.int .i64 0),(0,3,At.bool false),(0,4,At.words true []),(0,5,At.int .i64 0),(8,0,At.bool v2.lo.neg),(8,1,At.words false v2.lo.xs),(8,2,At.int .i64 v2.lo.e),(8,3,At.bool v2.hi.neg),(8,4,At.words false v2.hi.xs),(8,5,At.int .i64 v2.hi.e)] 11) (inR ((2:Int)+1)∧true=true∧Sg.mk [(0,Tv.sv (Sv.one (At.rows false 3 4 (At.bool a.neg :: At.words false a.xs :: At.int .i64 a.e :: At.bool b.neg :: At.words false b.xs :: At.int .i64 b.e :: ivL false (Vx.mk c d))))),(4,iT ((2:Int)+1)),(3,Tv.sv (Sv.one (At.ptr 8 0))),(2,Tv.sv (Sv.one (At.ptr 0 0)))] [(0,0,At.bool false),(0,1,At.words true []),(0,2,At.int .i64 0),(0,3,At.bool false),(0,4,At.words true []),(0,5,At.int .i64 0),(8,0,At.bool v1.lo.neg),(8,1,At.words false v1.lo.xs),(8,2,At.int .i64 v1.lo.e),(8,3,At.bool v1.hi.neg),(8,4,At.words false v1.hi.xs),(8,5,At.int .i64 v1.hi.e)] 11=Sg.mk [(0,Tv.sv (Sv.one (At.rows false 3 4 (At.bool a.neg :: At.words false a.xs :: At.int .i64 a.e :: At.bool b.neg :: At.words false b.xs :: At.int .i64 b.e :: ivL false (Vx.mk c d))))),(4,iT 3),(3,Tv.sv (Sv.one (At.ptr 8 0))),(2,Tv.sv (Sv.one (At.ptr 0 0)))] [(0,0,At.bool false),(0,1,At.words true []),(0,2,At.int .i64 0),(0,3,At.bool false),(0,4,At.words true []),(0,5,At.int .i64 0),(8,0,At.bool v2.lo.neg),(8,1,At.words false v2.lo.xs),(8,2,At.int .i64 v2.lo.e),(8,3,At.bool v2.hi.neg),(8,4,At.words false v2.hi.xs),(8,5,At.int .i64 v2.hi.e)] 11)))∧(((0:Int)≤3∧(3:Int)<(↑(4:Nat):Int))∧(Dx.Sm 34359738368 d∧Dx.Sm 34359738368 v2.lo)∧true=true∧br (ltI (QJ d v2.lo) 0) (((0:Int)≤3∧(3:Int)<(↑(4:Nat):Int))∧((0:Int)≤3∧(3:Int)<(↑(4:Nat):Int))∧(Dx.Sm 34359738368 d∧Dx.Sm 34359738368 v2.hi)∧true=true∧br (ltI 0 (QJ d v2.hi)) (((0:Int)≤3∧(3:Int)<(↑(4:Nat):Int))∧inR ((3:Int)+1)∧true=true∧Sg.mk [(0,Tv.sv (Sv.one (At.rows false 3 4 (At.bool a.neg :: At.words false a.xs :: At.int .i64 a.e :: At.bool b.neg :: At.words false b.xs :: At.int .i64 b.e :: ivL false (Vx.mk c d))))),(4,iT ((3:Int)+1)),(3,Tv.sv (Sv.one (At.ptr 8 0))),(2,Tv.sv (Sv.one (At.ptr 0 0)))] [(0,0,At.bool false),(0,1,At.words true []),(0,2,At.int .i64 0),(0,3,At.bool false),(0,4,At.words true []),(0,5,At.int .i64 0),(8,0,At.bool d.neg),(8,1,At.words false d.xs),(8,2,At.int .i64 d.e),(8,3,At.bool d.neg),(8,4,At.words false d.xs),(8,5,At.int .i64 d.e)] 11=Sg.mk [(0,Tv.sv (Sv.one (At.rows false 3 4 (At.bool a.neg :: At.words false a.xs :: At.int .i64 a.e :: At.bool b.neg :: At.words false b.xs :: At.int .i64 b.e :: ivL false (Vx.mk c d))))),(4,iT 4),(3,Tv.sv (Sv.one (At.ptr 8 0))),(2,Tv.sv (Sv.one (At.ptr 0 0)))] [(0,0,At.bool false),(0,1,At.words true []),(0,2,At.int .i64 0),(0,3,At.bool false),(0,4,At.words true []),(0,5,At.int .i64 0),(8,0,At.bool v3.lo.neg),(8,1,At.words false v3.lo.xs),(8,2,At.int .i64 v3.lo.e),(8,3,At.bool v3.hi.neg),(8,4,At.words false v3.hi.xs),(8,5,At.int .i64 v3.hi.e)] 11) (inR ((3:Int)+1)∧true=true∧Sg.mk [(0,Tv.sv (Sv.one (At.rows false 3 4 (At.bool a.neg :: At.words false a.xs :: At.int .i64 a.e :: At.bool b.neg :: At.words false b.xs :: At.int .i64 b.e :: ivL false (Vx.mk c d))))),(4,iT ((3:Int)+1)),(3,Tv.sv (Sv.one (At.ptr 8 0))),(2,Tv.sv (Sv.one (At.ptr 0 0)))] [(0,0,At.bool false),(0,1,At.words true []),(0,2,At.int .i64 0),(0,3,At.bool false),(0,4,At.words true []),(0,5,At.int .i64 0),(8,0,At.bool d.neg),(8,1,At.words false d.xs),(8,2,At.int .i64 d.e),(8,3,At.bool v2.hi.neg),(8,4,At.words false v2.hi.xs),(8,5,At.int .i64 v2.hi.e)] 11=Sg.mk [(0,Tv.sv (Sv.one (At.rows false 3 4 (At.bool a.neg :: At.words false a.xs :: At.int .i64 a.e :: At.bool b.neg :: At.words false b.xs :: At.int .i64 b.e :: ivL false (Vx.mk c d))))),(4,iT 4),(3,Tv.sv (Sv.one (At.ptr 8 0))),(2,Tv.sv (Sv.one (At.ptr 0 0)))] [(0,0,At.bool false),(0,1,At.words true []),(0,2,At.int .i64 0),(0,3,At.bool false),(0,4,At.words true []),(0,5,At.int .i64 0),(8,0,At.bool v3.lo.neg),(8,1,At.words false v3.lo.xs),(8,2,At.int .i64 v3.lo.e),(8,3,At.bool v3.hi.neg),(8,4,At.words false v3.hi.xs),(8,5,At.int .i64 v3.hi.e)] 11)) (((0:Int)≤3∧(3:Int)<(↑(4:Nat):Int))∧(Dx.Sm 34359738368 d∧Dx.Sm 34359738368 v2.hi)∧true=true∧br (ltI 0 (QJ d v2.hi)) (((0:Int)≤3∧(3:Int)<(↑(4:Nat):Int))∧inR ((3:Int)+1)∧true=true∧Sg.mk [(0,Tv.sv (Sv.one (At.rows false 3 4 (At.bool a.neg :: At.words false a.xs :: At.int .i64 a.e :: At.bool b.neg :: At.words false b.xs :: At.int .i64 b.e :: ivL false (Vx.mk c d))))),(4,iT ((3:Int)+1)),(3,Tv.sv (Sv.one (At.ptr 8 0))),(2,Tv.sv (Sv.one (At.ptr 0 0)))] [(0,0,At.bool false),(0,1,At.words true []),(0,2,At.int .i64 0),(0,3,At.bool false),(0,4,At.words true []),(0,5,At.int .i64 0),(8,0,At.bool v2.lo.neg),(8,1,At.words false v2.lo.xs),(8,2,At.int .i64 v2.lo.e),(8,3,At.bool d.neg),(8,4,At.words false d.xs),(8,5,At.int .i64 d.e)] 11=Sg.mk [(0,Tv.sv (Sv.one (At.rows false 3 4 (At.bool a.neg :: At.words false a.xs :: At.int .i64 a.e :: At.bool b.neg :: At.words false b.xs :: At.int .i64 b.e :: ivL false (Vx.mk c d))))),(4,iT 4),(3,Tv.sv (Sv.one (At.ptr 8 0))),(2,Tv.sv (Sv.one (At.ptr 0 0)))] [(0,0,At.bool false),(0,1,At.words true []),(0,2,At.int .i64 0),(0,3,At.bool false),(0,4,At.words true []),(0,5,At.int .i64 0),(8,0,At.bool v3.lo.neg),(8,1,At.words false v3.lo.xs),(8,2,At.int .i64 v3.lo.e),(8,3,At.bool v3.hi.neg),(8,4,At.words false v3.hi.xs),(8,5,At.int .i64 v3.hi.e)] 11) (inR ((3:Int)+1)∧true=true∧Sg.mk [(0,Tv.sv (Sv.one (At.rows false 3 4 (At.bool a.neg :: At.words false a.xs :: At.int .i64 a.e :: At.bool b.neg :: At.words false b.xs :: At.int .i64 b.e :: ivL false (Vx.mk c d))))),(4,iT ((3:Int)+1)),(3,Tv.sv (Sv.one (At.ptr 8 0))),(2,Tv.sv (Sv.one (At.ptr 0 0)))] [(0,0,At.bool false),(0,1,At.words true []),(0,2,At.int .i64 0),(0,3,At.bool false),(0,4,At.words true []),(0,5,At.int .i64 0),(8,0,At.bool v2.lo.neg),(8,1,At.words false v2.lo.xs),(8,2,At.int .i64 v2.lo.e),(8,3,At.bool v2.hi.neg),(8,4,At.words false v2.hi.xs),(8,5,At.int .i64 v2.hi.e)] 11=Sg.mk [(0,Tv.sv (Sv.one (At.rows false 3 4 (At.bool a.neg :: At.words false a.xs :: At.int .i64 a.e :: At.bool b.neg :: At.words false b.xs :: At.int .i64 b.e :: ivL false (Vx.mk c d))))),(4,iT 4),(3,Tv.sv (Sv.one (At.ptr 8 0))),(2,Tv.sv (Sv.one (At.ptr 0 0)))] [(0,0,At.bool false),(0,1,At.words true []),(0,2,At.int .i64 0),(0,3,At.bool false),(0,4,At.words true []),(0,5,At.int .i64 0),(8,0,At.bool v3.lo.neg),(8,1,At.words false v3.lo.xs),(8,2,At.int .i64 v3.lo.e),(8,3,At.bool v3.hi.neg),(8,4,At.words false v3.hi.xs),(8,5,At.int .i64 v3.hi.e)] 11)))∧Q (Tv.sv (Sv.agg (ivL false v3)))∧True):=by kernel_rfl
theorem spanR{v:Vx}{d:Dx}{p:Vx→Prop}{N M:Nat}(hv:v.Sm N)(hd:d.Sm N)(hN:N≤M)(h:p (Qp v d)){I R:Prop}(hI:I)(hR:R){q1 q2 q3 q4:Prop}(h1:p ⟨d,d⟩→q1)(h2:p ⟨d,v.hi⟩→q2)(h3:p ⟨v.lo,d⟩→q3)(h4:p v→q4) :
    I∧(Dx.Sm M d∧Dx.Sm M v.lo)∧true=true∧br (ltI (QJ d v.lo) 0) (I∧I∧(Dx.Sm M d∧Dx.Sm M v.hi)∧true=true∧br (ltI 0 (QJ d v.hi)) (I∧R∧true=true∧q1) (R∧true=true∧q2)) (I∧(Dx.Sm M d∧Dx.Sm M v.hi)∧true=true∧br (ltI 0 (QJ d v.hi)) (I∧R∧true=true∧q3) (R∧true=true∧q4)):=by
  have a:=hd.mono hN
  have b:=hv.1.mono hN
  have c:=hv.2.mono hN
  refine ⟨hI,⟨a,b⟩,rfl,qB (fun e1=>⟨hI,hI,⟨a,c⟩,rfl,qB (fun e2=>⟨hI,hR,rfl,h1 ?_⟩) fun e2=>⟨hR,rfl,h2 ?_⟩⟩) fun e1=>⟨hI,⟨a,c⟩,rfl,qB (fun e2=>⟨hI,hR,rfl,h3 ?_⟩) fun e2=>⟨hR,rfl,h4 ?_⟩⟩⟩
  · rwa [Qp,if_pos (qW.1 e1),if_pos (qW.1 e2)] at h
  · rwa [Qp,if_pos (qW.1 e1),if_neg (qJ.1 e2)] at h
  · rwa [Qp,if_neg (qJ.1 e1),if_pos (qW.1 e2)] at h
  · rwa [Qp,if_neg (qJ.1 e1),if_neg (qJ.1 e2)] at h
def gSpan:qU:=fun l=>match l with
  | [.one (.rows false 3 4 [.bool n1,.words false x1,.int .i64 e1,.bool n2,.words false x2,.int .i64 e2,.bool n3,.words false x3,.int .i64 e3,.bool n4,.words false x4,.int .i64 e4])] =>
    (some (Dx.Sm 34359738368 ⟨n1,x1,e1⟩∧Dx.Sm 34359738368 ⟨n2,x2,e2⟩∧Dx.Sm 34359738368 ⟨n3,x3,e3⟩∧Dx.Sm 34359738368 ⟨n4,x4,e4⟩),vF (Qt ⟨n1,x1,e1⟩ [⟨n2,x2,e2⟩,⟨n3,x3,e3⟩,⟨n4,x4,e4⟩]))
  | _=>ZL
theorem gSpan_ok:SpecOk Tryz.prog 62 gSpan :=
  specOk_at (qO QF Z8) mixed Tryz.func62 rfl (by decide) 1 (by decide) fun l p t e hp=>by
    unfold gSpan at e
    split at e
    · rename_i n1 x1 e1 n2 x2 e2 n3 x3 e3 n4 x4 e4
      cases e
      obtain ⟨s1,s2,s3,s4⟩:=hp
      refine ⟨Nat.le_refl 1,_,0,(gSpan_vc ⟨n1,x1,e1⟩ ⟨n2,x2,e2⟩ ⟨n3,x3,e3⟩ ⟨n4,x4,e4⟩ (Qt ⟨n1,x1,e1⟩ [⟨n2,x2,e2⟩]) (Qt ⟨n1,x1,e1⟩ [⟨n2,x2,e2⟩,⟨n3,x3,e3⟩]) (Qt ⟨n1,x1,e1⟩ [⟨n2,x2,e2⟩,⟨n3,x3,e3⟩,⟨n4,x4,e4⟩]) _).mpr ?_⟩
      have t2:Vx.Sm 34359738368 (Qt ⟨n1,x1,e1⟩ [⟨n2,x2,e2⟩]):=spanS_sm ⟨s1,s1⟩ s2
      have t3:Vx.Sm 34359738368 (Qt ⟨n1,x1,e1⟩ [⟨n2,x2,e2⟩,⟨n3,x3,e3⟩]):=spanS_sm t2 s3
      refine ⟨⟨by omega,by omega⟩,⟨by omega,by omega⟩,rfl,rfl,rfl,?_,?_,?_,rfl,trivial⟩
      · refine spanR (p:=fun v=>Qt ⟨n1,x1,e1⟩ [⟨n2,x2,e2⟩]=v) ⟨s1,s1⟩ s2 (by omega) rfl ⟨by omega,by omega⟩ ⟨by omega,by omega⟩ ?_ ?_ ?_ ?_<;>exact fun e=>by rw [e];rfl
      · refine spanR (p:=fun v=>Qt ⟨n1,x1,e1⟩ [⟨n2,x2,e2⟩,⟨n3,x3,e3⟩]=v) t2 s3 (by omega) rfl ⟨by omega,by omega⟩ ⟨by omega,by omega⟩ ?_ ?_ ?_ ?_<;>exact fun e=>by rw [e];rfl
      · refine spanR (p:=fun v=>Qt ⟨n1,x1,e1⟩ [⟨n2,x2,e2⟩,⟨n3,x3,e3⟩,⟨n4,x4,e4⟩]=v) t3 s4 (by omega) rfl ⟨by omega,by omega⟩ ⟨by omega,by omega⟩ ?_ ?_ ?_ ?_<;>exact fun e=>by rw [e];rfl
    · cases e;exact hp.elim
def sGs:List (FuncId×qU):=[(62,gSpan),(32,fTimes),(61,fPlus),(60,gTrim)]
theorem sGs_ok:SpecsOk Tryz.prog sGs:=⟨gSpan_ok,fTimes_ok,fPlus_ok,gTrim_ok,trivial⟩
theorem gPlus_vc(v u:Vx)(p:Int)(Q:Tv→Prop):qH ⟨tys2,sGs⟩ (fun _=>none) 0 Tryz.f19 [.agg (ivL false v),.agg (ivL false u),.one (.int .i64 p)] Q=((Dx.Sm 68719476736 v.lo∧Dx.Sm 68719476736 u.lo)∧(Dx.Sm 68719476736 v.hi∧Dx.Sm 68719476736 u.hi)∧(Vx.Sm 34359738368 (Vx.mk (Qx v.lo u.lo) (Qx v.hi u.hi))∧(0:Int)≤p∧p≤1099511627776)∧true=true∧Q (Tv.sv (Sv.agg (ivL true (qV (Vx.mk (Qx v.lo u.lo) (Qx v.hi u.hi)) p))))):=by kernel_rfl
theorem gTimes_vc(v u:Vx)(p:Int)(Q:Tv→Prop):qH ⟨tys2,sGs⟩ (fun _=>none) 0 Tryz.f20 [.agg (ivL false v),.agg (ivL false u),.one (.int .i64 p)] Q=((Dx.Sm 68719476736 v.lo∧Dx.Sm 68719476736 u.lo)∧(Dx.Sm 68719476736 v.lo∧Dx.Sm 68719476736 u.hi)∧(Dx.Sm 68719476736 v.hi∧Dx.Sm 68719476736 u.lo)∧(Dx.Sm 68719476736 v.hi∧Dx.Sm 68719476736 u.hi)∧true=true∧(Dx.Sm 34359738368 (zQ v.lo u.lo)∧Dx.Sm 34359738368 (zQ v.lo u.hi)∧Dx.Sm 34359738368 (zQ v.hi u.lo)∧Dx.Sm 34359738368 (zQ v.hi u.hi))∧(Vx.Sm 34359738368 (Qt (zQ v.lo u.lo) [zQ v.lo u.hi,zQ v.hi u.lo,zQ v.hi u.hi])∧(0:Int)≤p∧p≤1099511627776)∧Q (Tv.sv (Sv.agg (ivL true (qV (Qt (zQ v.lo u.lo) [zQ v.lo u.hi,zQ v.hi u.lo,zQ v.hi u.hi]) p))))):=by kernel_rfl
def gPlus:qU:=qF [.v,.v,.i .i64] fun (v:Vx) (u:Vx) (p:Int)=>(some (v.Sm 268435456∧u.Sm 268435456∧0≤p∧p≤1099511627776),vT (plusV v u p))
theorem gPlus_ok:SpecOk Tryz.prog 19 gPlus :=
  qG (qO QF sGs_ok) mixed Tryz.func19 rfl (by decide) (by decide) fun (v:Vx) hv (u:Vx) hu (p:Int) _ hp=>⟨fun _=>none,0,by
    obtain ⟨⟨a1,a2⟩,⟨b1,b2⟩,p0,p1⟩:v.Sm 268435456∧u.Sm 268435456∧0≤p∧p≤1099511627776:=hp
    have s1:=Xw (Dx.Wf.m0 hv.1) (Dx.Wf.m0 hu.1) a1 b1
    have s2:=Xw (Dx.Wf.m0 hv.2) (Dx.Wf.m0 hu.2) a2 b2
    exact (gPlus_vc v u p _).mpr ⟨⟨a1.mono (by omega),b1.mono (by omega)⟩,⟨a2.mono (by omega),b2.mono (by omega)⟩,⟨⟨s1.mono (by omega),s2.mono (by omega)⟩,p0,p1⟩,rfl,rfl⟩⟩
def gTimes:qU:=qF [.v,.v,.i .i64] fun (v:Vx) (u:Vx) (p:Int)=>(some (v.Sm 268435456∧u.Sm 268435456∧0≤p∧p≤1099511627776),vT (qK v u p))
theorem gTimes_ok:SpecOk Tryz.prog 20 gTimes :=
  qG (qO QF sGs_ok) mixed Tryz.func20 rfl (by decide) (by decide) fun (v:Vx) hv (u:Vx) hu (p:Int) _ hp=>⟨fun _=>none,0,by
    obtain ⟨sv,su,p0,p1⟩:v.Sm 268435456∧u.Sm 268435456∧0≤p∧p≤1099511627776:=hp
    have v1:=Dx.Wf.m0 hv.1
    have v2:=Dx.Wf.m0 hv.2
    have u1:=Dx.Wf.m0 hu.1
    have u2:=Dx.Wf.m0 hu.2
    have sz:∀ {a b:Dx},0≤a.m→0≤b.m→a.Sm 268435456→b.Sm 268435456→(zQ a b).Sm 34359738368:=fun ha hb sa sb=>(timesD_sm ha hb sa sb).mono (by omega)
    have sm:∀ {a:Dx},a.Sm 268435456→a.Sm 68719476736:=fun h=>h.mono (by omega)
    exact (gTimes_vc v u p _).mpr ⟨⟨sm sv.1,sm su.1⟩,⟨sm sv.1,sm su.2⟩,⟨sm sv.2,sm su.1⟩,⟨sm sv.2,sm su.2⟩,rfl,⟨sz v1 u1 sv.1 su.1,sz v1 u2 sv.1 su.2,sz v2 u1 sv.2 su.1,sz v2 u2 sv.2 su.2⟩,⟨(prodV_sm (Vx.Wf.p hv) (Vx.Wf.p hu) sv su).mono (by omega),p0,p1⟩,rfl⟩⟩
def sG3:List (FuncId×qU):=[(19,gPlus),(20,gTimes)] ++ sG2
theorem sG3_ok:SpecsOk Tryz.prog sG3:=⟨gPlus_ok,gTimes_ok,sG2_ok⟩
def sAlt:List (FuncId×qU):=[(140,rPoint),(143,rTimes),(47,rTrim),(180,seFrom),(182,seOne),(181,seSumA),(186,seWid),(187,seSub),(170,seIval)]
theorem sAlt_ok:SpecsOk Tryz.prog sAlt:=⟨rPoint_ok,rTimes_ok,rTrim_ok,seFrom_ok,seOne_ok,seSumA_ok,seWid_ok,seSub_ok,seIval_ok,trivial⟩
theorem rAlt_vc(t:Dx)(f w:Int)(Q:Tv→Prop):qH ⟨tys4,sAlt⟩ (fun _=>none) 0 Tryz.f148 [.agg (dyL false t),.one (.int .i64 f),.one (.int .i64 w)] Q=(eB 4611686018427387904 t∧eB 4611686018427387904 t∧inR (w+8)∧(Vx.Sm 268435456 (qD t)∧Vx.Sm 268435456 (qD t)∧(0:Int)≤w+8∧w+8≤1099511627776)∧inR (w+8)∧(Vx.Sm 34359738368 (qK (qD t) (qD t) (w+8))∧(0:Int)≤w+8∧w+8≤1099511627776)∧(Vx.Sm 268435456 (qV (qK (qD t) (qD t) (w+8)) (w+8))∧(0:Int)≤w∧w≤16777216∧(0:Int)≤(Zj (qV (qK (qD t) (qD t) (w+8)) (w+8)) w).e∧(Zj (qV (qK (qD t) (qD t) (w+8)) (w+8)) w).e≤1099511627776)∧true=true∧((0:Int)≤w∧w≤16777216)∧((183:Nat)=(183:FuncId)∧(fw (Fx.mk ((2:Int)^Int.toNat w) 0)).xs=ws (val (fw (Fx.mk ((2:Int)^Int.toNat w) 0)).xs)∧(fw (Zj (qV (qK (qD t) (qD t) (w+8)) (w+8)) w)).xs=ws (val (fw (Zj (qV (qK (qD t) (qD t) (w+8)) (w+8)) w)).xs)∧altSumOk f (Fx.mk (val (fw (Zj (qV (qK (qD t) (qD t) (w+8)) (w+8)) w)).xs) (fw (Zj (qV (qK (qD t) (qD t) (w+8)) (w+8)) w)).e) w (Fx.mk (val (fw (Fx.mk ((2:Int)^Int.toNat w) 0)).xs) (fw (Fx.mk ((2:Int)^Int.toNat w) 0)).e))∧((0:Int)≤0∧(0:Int)<(↑(2:Nat):Int))∧((0:Int)≤1∧(1:Int)<(↑(2:Nat):Int))∧((0:Int)≤0∧(0:Int)<(↑(2:Nat):Int))∧(Fw.Ok (fw (QS f (Fx.mk (val (fw (Zj (qV (qK (qD t) (qD t) (w+8)) (w+8)) w)).xs) (fw (Zj (qV (qK (qD t) (qD t) (w+8)) (w+8)) w)).e) w (Fx.mk (val (fw (Fx.mk ((2:Int)^Int.toNat w) 0)).xs) (fw (Fx.mk ((2:Int)^Int.toNat w) 0)).e) 0))∧(0:Int)≤4∧(4:Int)≤1099511627776∧(fw (QS f (Fx.mk (val (fw (Zj (qV (qK (qD t) (qD t) (w+8)) (w+8)) w)).xs) (fw (Zj (qV (qK (qD t) (qD t) (w+8)) (w+8)) w)).e) w (Fx.mk (val (fw (Fx.mk ((2:Int)^Int.toNat w) 0)).xs) (fw (Fx.mk ((2:Int)^Int.toNat w) 0)).e) 0)).xs=ws (val (fw (QS f (Fx.mk (val (fw (Zj (qV (qK (qD t) (qD t) (w+8)) (w+8)) w)).xs) (fw (Zj (qV (qK (qD t) (qD t) (w+8)) (w+8)) w)).e) w (Fx.mk (val (fw (Fx.mk ((2:Int)^Int.toNat w) 0)).xs) (fw (Fx.mk ((2:Int)^Int.toNat w) 0)).e) 0)).xs))∧((0:Int)≤1∧(1:Int)<(↑(2:Nat):Int))∧(Fw.Ok (fw (QS f (Fx.mk (val (fw (Zj (qV (qK (qD t) (qD t) (w+8)) (w+8)) w)).xs) (fw (Zj (qV (qK (qD t) (qD t) (w+8)) (w+8)) w)).e) w (Fx.mk (val (fw (Fx.mk ((2:Int)^Int.toNat w) 0)).xs) (fw (Fx.mk ((2:Int)^Int.toNat w) 0)).e) 1))∧(0:Int)≤4∧(4:Int)≤1099511627776∧(fw (QS f (Fx.mk (val (fw (Zj (qV (qK (qD t) (qD t) (w+8)) (w+8)) w)).xs) (fw (Zj (qV (qK (qD t) (qD t) (w+8)) (w+8)) w)).e) w (Fx.mk (val (fw (Fx.mk ((2:Int)^Int.toNat w) 0)).xs) (fw (Fx.mk ((2:Int)^Int.toNat w) 0)).e) 1)).xs=ws (val (fw (QS f (Fx.mk (val (fw (Zj (qV (qK (qD t) (qD t) (w+8)) (w+8)) w)).xs) (fw (Zj (qV (qK (qD t) (qD t) (w+8)) (w+8)) w)).e) w (Fx.mk (val (fw (Fx.mk ((2:Int)^Int.toNat w) 0)).xs) (fw (Fx.mk ((2:Int)^Int.toNat w) 0)).e) 1)).xs))∧(Fw.Ok (fw (zN (Fw.f (fw (QS f (Fx.mk (val (fw (Zj (qV (qK (qD t) (qD t) (w+8)) (w+8)) w)).xs) (fw (Zj (qV (qK (qD t) (qD t) (w+8)) (w+8)) w)).e) w (Fx.mk (val (fw (Fx.mk ((2:Int)^Int.toNat w) 0)).xs) (fw (Fx.mk ((2:Int)^Int.toNat w) 0)).e) 0))) 4))∧Fw.Ok (fw (zN (Fw.f (fw (QS f (Fx.mk (val (fw (Zj (qV (qK (qD t) (qD t) (w+8)) (w+8)) w)).xs) (fw (Zj (qV (qK (qD t) (qD t) (w+8)) (w+8)) w)).e) w (Fx.mk (val (fw (Fx.mk ((2:Int)^Int.toNat w) 0)).xs) (fw (Fx.mk ((2:Int)^Int.toNat w) 0)).e) 1))) 4))∧(Fw.f (fw (zN (Fw.f (fw (QS f (Fx.mk (val (fw (Zj (qV (qK (qD t) (qD t) (w+8)) (w+8)) w)).xs) (fw (Zj (qV (qK (qD t) (qD t) (w+8)) (w+8)) w)).e) w (Fx.mk (val (fw (Fx.mk ((2:Int)^Int.toNat w) 0)).xs) (fw (Fx.mk ((2:Int)^Int.toNat w) 0)).e) 1))) 4))).a+(Fw.f (fw (zN (Fw.f (fw (QS f (Fx.mk (val (fw (Zj (qV (qK (qD t) (qD t) (w+8)) (w+8)) w)).xs) (fw (Zj (qV (qK (qD t) (qD t) (w+8)) (w+8)) w)).e) w (Fx.mk (val (fw (Fx.mk ((2:Int)^Int.toNat w) 0)).xs) (fw (Fx.mk ((2:Int)^Int.toNat w) 0)).e) 1))) 4))).e≤(Fw.f (fw (zN (Fw.f (fw (QS f (Fx.mk (val (fw (Zj (qV (qK (qD t) (qD t) (w+8)) (w+8)) w)).xs) (fw (Zj (qV (qK (qD t) (qD t) (w+8)) (w+8)) w)).e) w (Fx.mk (val (fw (Fx.mk ((2:Int)^Int.toNat w) 0)).xs) (fw (Fx.mk ((2:Int)^Int.toNat w) 0)).e) 0))) 4))).a)∧(Fw.Ok (fw (subF (Fw.f (fw (zN (Fw.f (fw (QS f (Fx.mk (val (fw (Zj (qV (qK (qD t) (qD t) (w+8)) (w+8)) w)).xs) (fw (Zj (qV (qK (qD t) (qD t) (w+8)) (w+8)) w)).e) w (Fx.mk (val (fw (Fx.mk ((2:Int)^Int.toNat w) 0)).xs) (fw (Fx.mk ((2:Int)^Int.toNat w) 0)).e) 0))) 4))) (Fw.f (fw (zN (Fw.f (fw (QS f (Fx.mk (val (fw (Zj (qV (qK (qD t) (qD t) (w+8)) (w+8)) w)).xs) (fw (Zj (qV (qK (qD t) (qD t) (w+8)) (w+8)) w)).e) w (Fx.mk (val (fw (Fx.mk ((2:Int)^Int.toNat w) 0)).xs) (fw (Fx.mk ((2:Int)^Int.toNat w) 0)).e) 1))) 4)))))∧(0:Int)≤w∧w≤16777216)∧true=true∧Q (Tv.sv (Sv.agg (ivL true (ivF (Fw.f (fw (subF (Fw.f (fw (zN (Fw.f (fw (QS f (Fx.mk (val (fw (Zj (qV (qK (qD t) (qD t) (w+8)) (w+8)) w)).xs) (fw (Zj (qV (qK (qD t) (qD t) (w+8)) (w+8)) w)).e) w (Fx.mk (val (fw (Fx.mk ((2:Int)^Int.toNat w) 0)).xs) (fw (Fx.mk ((2:Int)^Int.toNat w) 0)).e) 0))) 4))) (Fw.f (fw (zN (Fw.f (fw (QS f (Fx.mk (val (fw (Zj (qV (qK (qD t) (qD t) (w+8)) (w+8)) w)).xs) (fw (Zj (qV (qK (qD t) (qD t) (w+8)) (w+8)) w)).e) w (Fx.mk (val (fw (Fx.mk ((2:Int)^Int.toNat w) 0)).xs) (fw (Fx.mk ((2:Int)^Int.toNat w) 0)).e) 1))) 4)))))) w))))):=by kernel_rfl
theorem widerF_2(x:Fx)(a b:Int):zN (zN x a) b=zN x (a+b):=by
  show (⟨x.a,x.e+a+b⟩:Fx)=⟨x.a,x.e+(a+b)⟩
  rw [Int.add_assoc]
theorem Xd{t:Dx}{N:Nat}(ht:0≤t.m)(h:t.Sm N):(qD t).Sm (N+N):=⟨ZM ht h,ZM ht h⟩
theorem trimV_sm{v:Vx}{N:Nat}{p:Int}(hv:v.P)(h:v.Sm N)(hp:0≤p):(qV v p).Sm (6*N+1):=⟨cutD_sm hv.1 h.1 hp,cutD_sm hv.2 h.2 hp⟩
theorem timesV_sm{v u:Vx}{N:Nat}{p:Int}(hv:v.P)(hu:u.P)(sv:v.Sm N)(su:u.Sm N)(hp:0≤p):(qK v u p).Sm (24*N+1) :=
  (trimV_sm (prodV_p v u) (prodV_sm hv hu sv su) hp).mono (by omega)
theorem altSum_parts{f:Nat}{sq:Fx}{w:Int}{x:Rat}(h:Alt f sq w x) :
    (QS f sq w ⟨2^w.toNat,0⟩ 0).Ok∧(QS f sq w ⟨2^w.toNat,0⟩ 1).Ok∧(zN (QS f sq w ⟨2^w.toNat,0⟩ 0) 4).Ok∧(zN (QS f sq w ⟨2^w.toNat,0⟩ 1) 4).Ok ∧
      subF (zN (QS f sq w ⟨2^w.toNat,0⟩ 0) 4) (zN (QS f sq w ⟨2^w.toNat,0⟩ 1) 4)=altD f sq w (altK f sq w) ((ZS f sq w (altK f sq w)).e+8):=by
  obtain ⟨k1,k2,k3,k4⟩:=Xc h
  have e0:=(Zz h (altK f sq w)).e0
  have e1:=altT_e h (altK f sq w)
  have hw:=h.w1
  have o0:=altM_ok h 0 (k:=altK f sq w) (by omega)
  have o1:=altM_ok h 1 (k:=altK f sq w) (by omega)
  have m0:=altM_e h 0 (altK f sq w)
  have m1:=altM_e h 1 (altK f sq w)
  have ok:∀ {z:Fx} {c:Int},z.Ok→z.e≤2097152→0≤c→c≤32→(zN z c).Ok:=fun hz he c0 c1=>⟨hz.1,hz.2.1,show 0≤_+_ by have:=hz.2.2.1;omega,show _+_≤_ by omega⟩
  have d0:QS f sq w ⟨2^w.toNat,0⟩ 0=zN (ZT f sq w 0 (altK f sq w)) ((ZS f sq w (altK f sq w)).e+4):=rfl
  have d1:QS f sq w ⟨2^w.toNat,0⟩ 1=zN (ZT f sq w 1 (altK f sq w)) ((ZS f sq w (altK f sq w)).e+4):=rfl
  rw [d0,d1,widerF_2,widerF_2]
  refine ⟨ok o0 (by omega) (by omega) (by omega),ok o1 (by omega) (by omega) (by omega),ok o0 (by omega) (by omega) (by omega),ok o1 (by omega) (by omega) (by omega),?_⟩
  rw [Int.add_assoc];rfl
def Qa(t:Dx):Prop:=t.rv≤1∧-1≤t.rv
def rAlt:qU:=qF [.d,.i .i64,.i .i64] fun (t:Dx) (f:Int) (w:Int)=>(some (t.Sm 131072∧Qa t∧1≤f∧f≤2∧32≤w∧w≤65536),vT (altV f.toNat t w))
theorem rAlt_ok:SpecOk Tryz.prog 148 rAlt :=
  qG (qO Zy sAlt_ok) mixed Tryz.func148 rfl (by decide) (by decide) fun (t:Dx) ht (f:Int) _ (w:Int) _ hp=>⟨fun _=>none,0,by
    obtain ⟨st,⟨t1,t2⟩,f1,f2,w0,w1⟩:t.Sm 131072∧Qa t∧1≤f∧f≤2∧32≤w∧w≤65536:=hp
    obtain ⟨n,rfl⟩:∃ n:Nat,f=n:=⟨f.toNat,by omega⟩
    have m0:=Dx.Wf.m0 ht
    have A:=sqS_alt m0 t1 t2 (f:=n) (by omega) (by omega) w0 w1
    have so:=A.sqOk
    have z1:=Xd m0 st
    have z2:=timesV_sm (zJ t) (zJ t) z1 z1 (p:=w+8) (by omega)
    have z3:=trimV_sm (Q9 _ _) z2 (p:=w+8) (by omega)
    obtain ⟨b1,b2,b3,b4⟩:=altD_bd A (Xc A).1 (by have:=(Xc A).2.1;omega) (c:=(ZS n (sqS t w) w (altK n (sqS t w) w)).e+8) (by have:=(Zz A (altK n (sqS t w) w)).e0;omega) (by have:=altT_e A (altK n (sqS t w) w);omega)
    obtain ⟨o0,o1,p0,p1,d⟩:=altSum_parts A
    have pw:=two_pow_pos w.toNat
    have k1:Fx.mk (val (fw (Zj (qV (qK (qD t) (qD t) (w+8)) (w+8)) w)).xs) (fw (Zj (qV (qK (qD t) (qD t) (w+8)) (w+8)) w)).e=sqS t w:=XD so.1
    have k2:Fx.mk (val (fw (Fx.mk ((2:Int)^w.toNat) 0)).xs) (fw (Fx.mk ((2:Int)^w.toNat) 0)).e=⟨2^w.toNat,0⟩:=XD (by show 0≤(2:Int)^w.toNat;omega)
    have xs:∀ z:Fx,0≤z.a→(fw z).xs=ws (val (fw z).xs):=fun z hz=>by show ws z.a=ws (val (ws z.a));rw [qN hz]
    show qH _ _ _ _ _ (fun t'=>t'=vT (altV n t w))
    refine (rAlt_vc t n w _).mpr ?_
    rw [k1,k2]
    have ok:=altSum_ok A so
    have e0:0≤(sqS t w).e∧(sqS t w).e≤16:=⟨A.hsq.e0,A.he⟩
    generalize QS n (sqS t w) w ⟨2^w.toNat,0⟩ 0=a0 at *
    generalize QS n (sqS t w) w ⟨2^w.toNat,0⟩ 1=a1 at *
    have le:(zN a1 4).a+(zN a1 4).e≤(zN a0 4).a:=by
      have:(subF (zN a0 4) (zN a1 4)).a=(zN a0 4).a-((zN a1 4).a+(zN a1 4).e):=rfl
      rw [d] at this;omega
    have od:(subF (zN a0 4) (zN a1 4)).Ok:=by
      rw [d]
      have:blen (altD n (sqS t w) w (altK n (sqS t w) w) ((ZS n (sqS t w) w (altK n (sqS t w) w)).e+8)).a≤w.toNat+1+1+1:=QN (by rw [Int.pow_succ,Int.pow_succ];omega)
      exact ⟨by omega,by omega,by omega,by omega⟩
    rw [XD o0.1,XD o1.1,XD p0.1,XD p1.1,XD od.1]
    have pt:eB 4611686018427387904 t:=st.eB (by omega)
    exact ⟨pt,pt,⟨by omega,by omega⟩,⟨z1.mono (by omega),z1.mono (by omega),by omega,by omega⟩,⟨by omega,by omega⟩,⟨z2.mono (by omega),by omega,by omega⟩,⟨z3.mono (by omega),by omega,by omega,e0.1,by have:=e0.2;show (sqS t w).e≤_;omega⟩,rfl,⟨by omega,by omega⟩,
      ⟨rfl,xs _ (by show 0≤(2:Int)^w.toNat;omega),xs _ so.1,ok⟩,⟨by omega,by omega⟩,⟨by omega,by omega⟩,⟨by omega,by omega⟩,⟨o0.w,by omega,by omega,xs _ o0.1⟩,⟨by omega,by omega⟩,⟨o1.w,by omega,by omega,xs _ o1.1⟩,⟨p0.w,p1.w,le⟩,⟨od.w,by omega,by omega⟩,rfl,by rw [d];rfl⟩⟩
theorem AltIv.sm{f:Nat}{t:Dx}{w:Int}{v:Vx}(h:AltIv f t w v)(w0:0≤w)(w1:w≤65536):v.Sm 262144:=by
  obtain ⟨a,b,a0,a1,b0,b1,rfl⟩:=h.bits
  have k:∀ n:Int,n≤3*2^w.toNat→blen n≤w.toNat+1+1+1:=fun n hn=>QN (by rw [Int.pow_succ,Int.pow_succ];have:=two_pow_pos w.toNat;omega)
  exact ⟨(mkD_sm (M:=65536) a0 (k a a1) (by omega) (by omega)).mono (by omega),(mkD_sm (M:=65536) b0 (k b b1) (by omega) (by omega)).mono (by omega)⟩
def sSin:List (FuncId×qU):=[(148,rAlt),(147,rInt)] ++ sRaw8
theorem sSin_ok:SpecsOk Tryz.prog sSin:=⟨rAlt_ok,rInt_ok,YG⟩
def Zf(t:Dx)(p:Int):Vx:=if t.zeroB=true then zeroIv else qK (qV (qD t) (p+64)) (altV 2 t (p+64)) (p+64)
def qI(t:Dx)(p:Int):Vx:=if t.zeroB=true then qD (mkS 1 0) else altV 1 t (p+64)
def rSine:qU:=qF [.d,.i .i64] fun (t:Dx) (p:Int)=>(some (t.Sm 131072∧Qa t∧0≤p∧p≤60000),vF (Zf t p))
theorem rSine_vc(t:Dx)(p:Int)(Q:Tv→Prop):qH ⟨tys4,sSin⟩ (fun _=>none) 0 Tryz.f116 [.agg (dyL false t),.one (.int .i64 p)] Q=(br (Dx.zeroB t) (Q (Tv.sv (Sv.agg [At.bool false,At.words true [],At.int .i64 0,At.bool false,At.words true [],At.int .i64 0]))) (inR (p+64)∧eB 4611686018427387904 t∧(Vx.Sm 34359738368 (qD t)∧(0:Int)≤p+64∧p+64≤1099511627776)∧(Dx.Sm 131072 t∧Qa t∧(1:Int)≤2∧(2:Int)≤2∧(32:Int)≤p+64∧p+64≤65536)∧(Vx.Sm 268435456 (qV (qD t) (p+64))∧Vx.Sm 268435456 (altV 2 t (p+64))∧(0:Int)≤p+64∧p+64≤1099511627776)∧true=true∧Q (Tv.sv (Sv.agg (ivL true (qK (qV (qD t) (p+64)) (altV 2 t (p+64)) (p+64))))))):=by kernel_rfl
theorem altV_sm{t:Dx}{f:Nat}{w:Int}(ht:0≤t.m)(h:Qa t)(f1:1≤f)(f2:f≤2)(w0:32≤w)(w1:w≤65536):(altV f t w).Sm 262144 :=
  (altV_iv (sqS_alt ht h.1 h.2 f1 f2 w0 w1)).sm (by omega) w1
theorem rSine_ok:SpecOk Tryz.prog 116 rSine :=
  zA (qO Zy sSin_ok) mixed Tryz.func116 rfl (by decide) (by decide) fun (t:Dx) ht (p:Int) _ hp=>⟨fun _=>none,0,by
    obtain ⟨st,h1,p0,p1⟩:t.Sm 131072∧Qa t∧0≤p∧p≤60000:=hp
    have m0:=Dx.Wf.m0 ht
    have z1:=Xd m0 st
    have z2:=trimV_sm (zJ t) z1 (p:=p+64) (by omega)
    have z3:=altV_sm m0 h1 (f:=2) (w:=p+64) (by omega) (by omega) (by omega) (by omega)
    show qH _ _ _ _ _ (fun t'=>t'=vF (Zf t p)∨fgT t'=vF (Zf t p))
    refine (rSine_vc t p _).mpr (qB (fun h=>.inr ?_) fun h=>⟨⟨by omega,by omega⟩,st.eB (by omega),⟨z1.mono (by omega),by omega,by omega⟩,⟨st,h1,by omega,by omega,by omega,by omega⟩,⟨z2.mono (by omega),z3.mono (by omega),by omega,by omega⟩,rfl,.inr ?_⟩)
    · rw [Zf,if_pos h];rfl
    · rw [Zf,if_neg (by rw [h];simp)];rfl⟩
def rCosine:qU:=qF [.d,.i .i64] fun (t:Dx) (p:Int)=>(some (t.Sm 131072∧Qa t∧0≤p∧p≤60000),vT (qI t p))
theorem rCosine_vc(t:Dx)(p:Int)(Q:Tv→Prop):qH ⟨tys4,sSin⟩ (fun _=>none) 0 Tryz.f149 [.agg (dyL false t),.one (.int .i64 p)] Q=(br (Dx.zeroB t) (inR 1∧eB 4611686018427387904 (mkS 1 0)∧Q (Tv.sv (Sv.agg (ivL true (qD (mkS 1 0)))))) (inR (p+64)∧(Dx.Sm 131072 t∧Qa t∧(1:Int)≤1∧(1:Int)≤2∧(32:Int)≤p+64∧p+64≤65536)∧Q (Tv.sv (Sv.agg (ivL true (altV 1 t (p+64))))))):=by kernel_rfl
theorem mkS_sm6{n:Int}(h:n.natAbs≤16):(mkS n 0).Sm 5:=(mkS_sm (N:=5) (M:=0) (QW (by omega)) (by omega) (by omega)).mono (by omega)
theorem one_eB:eB 4611686018427387904 (mkS 1 0):=(mkS_sm6 (by omega)).eB (by omega)
theorem rCosine_ok:SpecOk Tryz.prog 149 rCosine :=
  qG (qO Zy sSin_ok) mixed Tryz.func149 rfl (by decide) (by decide) fun (t:Dx) ht (p:Int) _ hp=>⟨fun _=>none,0,by
    obtain ⟨st,h1,p0,p1⟩:t.Sm 131072∧Qa t∧0≤p∧p≤60000:=hp
    show qH _ _ _ _ _ (fun t'=>t'=vT (qI t p))
    refine (rCosine_vc t p _).mpr (qB (fun h=>⟨⟨by omega,by omega⟩,one_eB,?_⟩) fun h=>⟨⟨by omega,by omega⟩,⟨st,h1,by omega,by omega,by omega,by omega⟩,?_⟩)
    · rw [qI,if_pos h]
    · rw [qI,if_neg (by rw [h];simp)]⟩
def tyNum:TyRow:=⟨108,3,true,zD,.struct [(0,1,false),(1,1,false),(2,1,false)]⟩
theorem tyN_ok:RowsOk Tryz.prog (tyNum :: tys4):=⟨by kernel_rfl,Zy⟩
def dRight:qU:=qF [.d] fun (d:Dx)=>(none,bT d.fitsB)
theorem dRight_vc(d:Dx)(Q:Tv→Prop):qH ⟨tyNum :: tys4,sRaw8⟩ (fun _=>none) 0 Tryz.f95 [.agg (dyL false d)] Q=(Q (bT (Dx.fitsB d))):=by kernel_rfl
theorem dRight_ok:SpecOk Tryz.prog 95 dRight :=
  qG (qO tyN_ok YG) mixed Tryz.func95 rfl (by decide) (by decide) fun (d:Dx) _ _=>⟨fun _=>none,0,(dRight_vc d _).mpr rfl⟩
def chkD(d:Dx):Int:=if d.fitsB=true then 0 else 2
def dChk:qU:=qF [.d] fun (d:Dx)=>(none,iT (chkD d))
theorem dChk_vc(d:Dx)(Q:Tv→Prop):qH ⟨tyNum :: tys4,[(95,dRight)]⟩ (fun _=>none) 0 Tryz.f71 [.agg (dyL false d)] Q=(br (!Dx.fitsB d) (Q (iT 2)) (Q (iT 0))):=by kernel_rfl
theorem dChk_ok:SpecOk Tryz.prog 71 dChk :=
  qG (qO (S:=[(95,dRight)]) tyN_ok ⟨dRight_ok,trivial⟩) mixed Tryz.func71 rfl (by decide) (by decide) fun (d:Dx) _ _=>⟨fun _=>none,0,by
    show qH _ _ _ _ _ (fun t=>t=iT (chkD d))
    refine (dChk_vc d _).mpr (qB (fun h=>?_) fun h=>?_)
    · rw [chkD,if_neg (by rw [QE h];simp)]
    · rw [chkD,if_pos (q9 h)]⟩
def cutR(v:Vx)(p:Int):Vx×Int:=if qT (qV v (p+8))=true then (qV v (p+8),0) else (zeroIv,3)
def rCutV:qU:=qF [.v,.i .i64] fun (v:Vx) (p:Int)=>(some (v.Sm 34359738368∧0≤p∧p≤1073741824),reT (cutR v p))
theorem rCutV_vc(v:Vx)(p:Int)(Q:Tv→Prop):qH ⟨tys4,sSin⟩ (fun _=>none) 0 Tryz.f113 [.agg (ivL false v),.one (.int .i64 p)] Q=(inR (p+8)∧(Vx.Sm 34359738368 v∧(0:Int)≤p+8∧p+8≤1099511627776)∧br (!qT (qV v (p+8))) (Q (Tv.tup [Sv.agg [At.bool false,At.words true [],At.int .i64 0,At.bool false,At.words true [],At.int .i64 0],Sv.one (At.int .i64 3)])) (Q (Tv.tup [Sv.agg (ivL true (qV v (p+8))),Sv.one (At.int .i64 0)]))):=by kernel_rfl
theorem rCutV_ok:SpecOk Tryz.prog 113 rCutV :=
  zA (qO Zy sSin_ok) mixed Tryz.func113 rfl (by decide) (by decide) fun (v:Vx) _ (p:Int) _ hp=>⟨fun _=>none,0,by
    obtain ⟨sv,p0,p1⟩:v.Sm 34359738368∧0≤p∧p≤1073741824:=hp
    show qH _ _ _ _ _ (fun t=>t=reT (cutR v p)∨fgT t=reT (cutR v p))
    refine (rCutV_vc v p _).mpr ⟨⟨by omega,by omega⟩,⟨sv,by omega,by omega⟩,qB (fun h=>.inr ?_) fun h=>.inr ?_⟩
    · rw [cutR,if_neg (by rw [QE h];simp)];rfl
    · rw [cutR,if_pos (q9 h)];rfl⟩
def sSin2:List (FuncId×qU):=[(116,rSine),(149,rCosine),(113,rCutV),(71,dChk),(111,vCk)] ++ sSin
theorem sSin2_ok:SpecsOk Tryz.prog sSin2:=⟨rSine_ok,rCosine_ok,rCutV_ok,dChk_ok,vCk_ok,sSin_ok⟩
def ZZ(t:Dx)(p:Int):Int:=if chkD t=0∧8≤p∧p≤4096 then (if 0<QJ (absD t) (mkS 1 0) then 5 else 0) else 2
def rFault:qU:=qF [.d,.i .i64] fun (t:Dx) (p:Int)=>(none,iT (ZZ t p))
theorem rFault_vc(t:Dx)(p:Int)(Q:Tv→Prop):qH ⟨tys4,sSin2⟩ (fun _=>none) 0 Tryz.f112 [.agg (dyL false t),.one (.int .i64 p)] Q=(br (neI (chkD t) 0) (Q (iT 2)) (br (ltI p 8) (Q (iT 2)) (br (ltI 4096 p) (Q (iT 2)) (((-4611686018427387904:Int)≤t.e∧t.e≤4611686018427387904)∧inR 1∧(Dx.Sm 68719476736 (absD t)∧Dx.Sm 68719476736 (mkS 1 0))∧br (ltI 0 (QJ (absD t) (mkS 1 0))) (Q (iT 5)) (Q (iT 0)))))):=by kernel_rfl
theorem chk_fits{t:Dx}(h:chkD t=0):t.fitsB=true:=by
  unfold chkD at h;split at h
  · assumption
  · omega
theorem rFault_ok:SpecOk Tryz.prog 112 rFault :=
  qG (qO Zy sSin2_ok) mixed Tryz.func112 rfl (by decide) (by decide) fun (t:Dx) ht (p:Int) _ _=>⟨fun _=>none,0,by
    have m0:=Dx.Wf.m0 ht
    show qH _ _ _ _ _ (fun t'=>t'=iT (ZZ t p))
    refine (rFault_vc t p _).mpr (qB (fun h=>?_) fun h=>qB (fun h1=>?_) fun h1=>qB (fun h2=>?_) fun h2=>?_)
    · rw [ZZ,if_neg (by have:=Qi.1 h;omega)]
    · rw [ZZ,if_neg (by have:=qW.1 h1;omega)]
    · rw [ZZ,if_neg (by have:=qW.1 h2;omega)]
    · have h0:=qQ.1 h
      have h1:=qJ.1 h1
      have h2:=qJ.1 h2
      have st:=ZQ (chk_fits h0)
      rw [ZZ,if_pos ⟨h0,by omega,by omega⟩]
      refine ⟨st.eB (by omega),⟨by omega,by omega⟩,⟨(absD_sm m0 st).mono (by omega),(mkS_sm6 (n:=1) (by omega)).mono (by omega)⟩,qB (fun h3=>?_) fun h3=>?_⟩
      · rw [if_pos (qW.1 h3)]
      · rw [if_neg (qJ.1 h3)]⟩
theorem rv_int(n:Int):(mkS n 0).rv=(n:Rat):=by rw [rv_mkS,ZX,Rat.mul_one]
theorem fault0{t:Dx}{p:Int}(ht:0≤t.m)(h:ZZ t p=0):t.fitsB=true∧8≤p∧p≤4096∧Qa t:=by
  unfold ZZ at h
  split at h
  · rename_i k
    split at h
    · omega
    · rename_i k2
      refine ⟨chk_fits k.1,k.2.1,k.2.2,?_⟩
      have k3:=cmpD_gt0 (a:=absD t) (b:=mkS 1 0)
      have k4:(absD t).rv≤1:=by
        have e:(mkS 1 0).rv=1:=rv_int 1
        rw [e] at k3
        grind
      rw [rv_abs ht] at k4
      obtain ⟨a1,a2⟩:=QX ht
      rcases (show 0≤t.rv∨t.rv≤0 by grind) with c | c
      · have:=a1 c;exact ⟨by grind,by grind⟩
      · have:=a2 c;exact ⟨by grind,by grind⟩
  · omega
theorem Z0{t:Dx}(ht:0≤t.m)(h:Qa t):Qa (qC t):=by unfold Qa;rw [Qs ht];exact h
theorem rBoth1_vc(t:Dx)(p:Int)(Q:Tv→Prop):qH ⟨tys4,sSin2⟩ (fun _=>none) 0 Tryz.f115 [.agg (dyL false t),.one (.ref [.int .i64 p])] Q=((Dx.Sm 131072 t∧Qa t∧(0:Int)≤p∧p≤60000)∧Q (Tv.sv (Sv.agg (ivL false (Zf t p))))):=by kernel_rfl
def preS(t:Dx)(p:Int):Prop:=t.Sm 131072∧Qa t∧0≤p∧p≤60000
def wBo(fS:Dx→Int→Vx)(pr:Dx→Int→Prop):qU:=fun l=>match l with
  | [.agg [.bool n,.words false x,.int .i64 e],.one (.ref [.int .i64 p])]=>(some (pr ⟨n,x,e⟩ p),vF (fS ⟨n,x,e⟩ p))
  | _=>ZL
theorem rBoth1_ok:SpecOk Tryz.prog 115 (wBo Zf preS) :=
  specOk_at (qO Zy sSin2_ok) mixed Tryz.func115 rfl (by decide) 2 (by decide) fun l p t e hp=>by
    unfold wBo at e
    split at e
    · rename_i n x e0 q
      cases e
      exact ⟨Nat.le_refl 2,fun _=>none,0,(rBoth1_vc ⟨n,x,e0⟩ q _).mpr ⟨hp,rfl⟩⟩
    · cases e;exact hp.elim
theorem rRise_vc(v:Vx)(fS:Dx→Int→Vx)(pr:Dx→Int→Prop)(p:Int)(Q:Tv→Prop):qH ⟨tys4,[(115,wBo fS pr)]⟩ (fun _=>none) 0 Tryz.f114 [.agg (ivL false v),.one (.fn 115 [.ref [.int .i64 p]])] Q=(pr v.lo p∧pr v.hi p∧true=true∧Q (Tv.sv (Sv.agg (ivL false (Vx.mk (fS v.lo p).lo (fS v.hi p).hi))))):=by kernel_rfl
def ZA(v:Vx)(p:Int):Vx:=⟨(Zf v.lo p).lo,(Zf v.hi p).hi⟩
def rRise:qU:=fun l=>match l with
  | [.agg [.bool n,.words false x,.int .i64 e,.bool n',.words false x',.int .i64 e'],.one (.fn f [.ref [.int .i64 p]])] =>
    (some (f=115∧preS ⟨n,x,e⟩ p∧preS ⟨n',x',e'⟩ p),vF (ZA ⟨⟨n,x,e⟩,⟨n',x',e'⟩⟩ p))
  | _=>ZL
theorem rRise_ok:SpecOk Tryz.prog 114 rRise :=
  specOk_at (qO (S:=[(115,wBo Zf preS)]) Zy ⟨rBoth1_ok,trivial⟩) mixed Tryz.func114 rfl (by decide) 2 (by decide) fun l p t e hp=>by
    unfold rRise at e
    split at e
    · rename_i n x e0 n' x' e0' f q
      cases e
      obtain ⟨rfl,h1,h2⟩:=hp
      exact ⟨Nat.le_refl 2,fun _=>none,0,(rRise_vc ⟨⟨n,x,e0⟩,⟨n',x',e0'⟩⟩ Zf preS q _).mpr ⟨h1,h2,rfl,rfl⟩⟩
    · cases e;exact hp.elim
def zF(v:Vx)(p:Int):Vx :=
  let out:=Qt (qI v.lo p).lo [(qI v.lo p).hi,(qI v.hi p).lo,(qI v.hi p).hi]
  if ZP v=true then ⟨out.lo,mkS 1 0⟩ else out
def rCss:qU:=qF [.v,.i .i64] fun (v:Vx) (p:Int)=>(some (preS v.lo p∧preS v.hi p),vF (zF v p))
theorem rCss_vc(v:Vx)(p:Int)(Q:Tv→Prop):qH ⟨tys4,sSin2⟩ (fun _=>none) 0 Tryz.f117 [.agg (ivL false v),.one (.int .i64 p)] Q=((Dx.Sm 131072 v.lo∧Qa v.lo∧(0:Int)≤p∧p≤60000)∧(Dx.Sm 131072 v.hi∧Qa v.hi∧(0:Int)≤p∧p≤60000)∧true=true∧(Dx.Sm 68719476736 (qI v.lo p).lo∧Dx.Sm 68719476736 (qI v.lo p).hi∧Dx.Sm 68719476736 (qI v.hi p).lo∧Dx.Sm 68719476736 (qI v.hi p).hi)∧br (ZP v) (inR 1∧Q (Tv.sv (Sv.agg (At.bool (Qt (qI v.lo p).lo [(qI v.lo p).hi,(qI v.hi p).lo,(qI v.hi p).hi]).lo.neg :: At.words false (Qt (qI v.lo p).lo [(qI v.lo p).hi,(qI v.hi p).lo,(qI v.hi p).hi]).lo.xs :: At.int .i64 (Qt (qI v.lo p).lo [(qI v.lo p).hi,(qI v.hi p).lo,(qI v.hi p).hi]).lo.e :: dyL true (mkS 1 0))))) (Q (Tv.sv (Sv.agg (ivL false (Qt (qI v.lo p).lo [(qI v.lo p).hi,(qI v.hi p).lo,(qI v.hi p).hi])))))):=by kernel_rfl
theorem cosineV_sm{t:Dx}{p:Int}(ht:0≤t.m)(h:preS t p):(qI t p).Sm 262144:=by
  obtain ⟨st,h1,p0,p1⟩:=h
  unfold qI
  split
  · exact (Xd mkS_p (mkS_sm6 (n:=1) (by omega))).mono (by omega)
  · exact altV_sm ht h1 (by omega) (by omega) (by omega) (by omega)
theorem rCss_ok:SpecOk Tryz.prog 117 rCss :=
  zA (qO Zy sSin2_ok) mixed Tryz.func117 rfl (by decide) (by decide) fun (v:Vx) hv (p:Int) _ hp=>⟨fun _=>none,0,by
    obtain ⟨h1,h2⟩:preS v.lo p∧preS v.hi p:=hp
    have hv:=Vx.Wf.p hv
    have z1:=cosineV_sm hv.1 h1
    have z2:=cosineV_sm hv.2 h2
    show qH _ _ _ _ _ (fun t=>t=vF (zF v p)∨fgT t=vF (zF v p))
    refine (rCss_vc v p _).mpr ⟨h1,h2,rfl,⟨z1.1.mono (by omega),z1.2.mono (by omega),z2.1.mono (by omega),z2.2.mono (by omega)⟩,qB (fun h=>⟨⟨by omega,by omega⟩,.inr ?_⟩) fun h=>.inl ?_⟩
    · rw [zF,if_pos h];rfl
    · rw [zF,if_neg (by rw [h];simp)];rfl⟩
def sSin3:List (FuncId×qU):=[(104,rOne),(116,rSine),(149,rCosine),(113,rCutV),(112,rFault),(114,rRise),(117,rCss),(111,vCk)]
theorem sSin3_ok:SpecsOk Tryz.prog sSin3:=⟨rOne_ok,rSine_ok,rCosine_ok,rCutV_ok,rFault_ok,rRise_ok,rCss_ok,vCk_ok,trivial⟩
theorem fault_pre{t:Dx}{p:Int}(ht:0≤t.m)(h:ZZ t p=0):preS (qC t) p:=by
  obtain ⟨h1,h2,h3,h4⟩:=fault0 ht h
  exact ⟨ZM ht (ZQ h1),Z0 ht h4,by omega,by omega⟩
theorem sineV_sm{t:Dx}{p:Int}(ht:0≤t.m)(h:preS t p):(Zf t p).Sm 67108864:=by
  obtain ⟨st,h1,p0,p1⟩:=h
  unfold Zf
  split
  · have z:(⟨false,[],0⟩:Dx).Sm 67108864:=⟨by decide,by decide,by decide⟩
    exact ⟨z,z⟩
  · have z2:=trimV_sm (zJ t) (Xd ht st) (p:=p+64) (by omega)
    have z3:=(altV_sm ht h1 (f:=2) (w:=p+64) (by omega) (by omega) (by omega) (by omega)).mono (show 262144≤6*(131072+131072)+1 by omega)
    exact (timesV_sm (Q9 _ _) ⟨mkD_p,mkD_p⟩ z2 z3 (p:=p+64) (by omega)).mono (by omega)
def reT2(r:(Vx×Vx)×Int):Tv:=.tup [.agg (ivL false r.1.1),.agg (ivL false r.1.2),.one (.int .i64 r.2)]
def QT(v:Vx):Vx:=⟨qC v.lo,qC v.hi⟩
def both2(s c:Vx×Int):(Vx×Vx)×Int:=if s.2=0∧c.2=0 then ((s.1,c.1),0) else ((zeroIv,zeroIv),3)
def Z1(v:Vx)(p:Int):(Vx×Vx)×Int :=
  if checkR v=0 then if ZZ v.lo p=0 then if ZZ v.hi p=0 then both2 (cutR (ZA (QT v) p) p) (cutR (zF (QT v) p) p) else ((zeroIv,zeroIv),ZZ v.hi p) else ((zeroIv,zeroIv),ZZ v.lo p) else ((zeroIv,zeroIv),2)
def rBoth:qU:=qF [.v,.i .i64] fun (v:Vx) (p:Int)=>(none,reT2 (Z1 v p))
theorem rBoth_vc(v:Vx)(p:Int)(Q:Tv→Prop):qH ⟨tyDs :: tys4,sSin3⟩ (fun _=>none) 3 Tryz.f76 [.agg (ivL false v),.one (.int .i64 p)] Q=(br (neI (checkR v) 0) (Q (Tv.tup [Sv.agg [At.bool false,At.words true [],At.int .i64 0,At.bool false,At.words true [],At.int .i64 0],Sv.agg [At.bool false,At.words true [],At.int .i64 0,At.bool false,At.words true [],At.int .i64 0],Sv.one (At.int .i64 2)])) (((0:Int)≤0∧(0:Int)<(↑(2:Nat):Int))∧br (neI (ZZ v.lo p) 0) (Q (Tv.tup [Sv.agg [At.bool false,At.words true [],At.int .i64 0,At.bool false,At.words true [],At.int .i64 0],Sv.agg [At.bool false,At.words true [],At.int .i64 0,At.bool false,At.words true [],At.int .i64 0],Sv.one (At.int .i64 (ZZ v.lo p))])) (inR ((0:Int)+1)∧((0:Int)≤0+1∧(0:Int)+1<(↑(2:Nat):Int))∧br (neI (ZZ v.hi p) 0) (Q (Tv.tup [Sv.agg [At.bool false,At.words true [],At.int .i64 0,At.bool false,At.words true [],At.int .i64 0],Sv.agg [At.bool false,At.words true [],At.int .i64 0,At.bool false,At.words true [],At.int .i64 0],Sv.one (At.int .i64 (ZZ v.hi p))])) (inR ((0:Int)+1+1)∧((-4611686018427387904:Int)≤v.lo.e∧v.lo.e≤4611686018427387904)∧((-4611686018427387904:Int)≤v.hi.e∧v.hi.e≤4611686018427387904)∧true=true∧((115:Nat)=(115:FuncId)∧preS (qC v.lo) p∧preS (qC v.hi) p)∧(Vx.Sm 34359738368 (ZA (Vx.mk (qC v.lo) (qC v.hi)) p)∧(0:Int)≤p∧p≤1073741824)∧true=true∧(preS (qC v.lo) p∧preS (qC v.hi) p)∧(Vx.Sm 34359738368 (zF (Vx.mk (qC v.lo) (qC v.hi)) p)∧(0:Int)≤p∧p≤1073741824)∧true=true∧br (neI (cutR (ZA (Vx.mk (qC v.lo) (qC v.hi)) p) p).snd 0) (Q (Tv.tup [Sv.agg [At.bool false,At.words true [],At.int .i64 0,At.bool false,At.words true [],At.int .i64 0],Sv.agg [At.bool false,At.words true [],At.int .i64 0,At.bool false,At.words true [],At.int .i64 0],Sv.one (At.int .i64 3)])) (br (neI (cutR (zF (Vx.mk (qC v.lo) (qC v.hi)) p) p).snd 0) (Q (Tv.tup [Sv.agg [At.bool false,At.words true [],At.int .i64 0,At.bool false,At.words true [],At.int .i64 0],Sv.agg [At.bool false,At.words true [],At.int .i64 0,At.bool false,At.words true [],At.int .i64 0],Sv.one (At.int .i64 3)])) (true=true∧Q (Tv.tup [Sv.agg (ivL false (cutR (ZA (Vx.mk (qC v.lo) (qC v.hi)) p) p).fst),Sv.agg (ivL false (cutR (zF (Vx.mk (qC v.lo) (qC v.hi)) p) p).fst),Sv.one (At.int .i64 0)]))))))):=by kernel_rfl
theorem spanL_sm{a b c d:Dx}{N:Nat}(ha:a.Sm N)(hb:b.Sm N)(hc:c.Sm N)(hd:d.Sm N):(Qt a [b,c,d]).Sm N:=span4_sm ha hb hc hd
theorem cosinesV_sm{v:Vx}{p:Int}(hv:v.P)(h1:preS v.lo p)(h2:preS v.hi p):(zF v p).Sm 262144:=by
  have z1:=cosineV_sm hv.1 h1
  have z2:=cosineV_sm hv.2 h2
  have z:=span4_sm z1.1 z1.2 z2.1 z2.2
  unfold zF
  show Vx.Sm 262144 (if _ then _ else _)
  split
  · exact ⟨z.1,(mkS_sm6 (n:=1) (by omega)).mono (by omega)⟩
  · exact z
theorem rBoth_ok:SpecOk Tryz.prog 76 rBoth :=
  zA (qO (T:=tyDs :: tys4) ⟨by kernel_rfl,Zy⟩ sSin3_ok) mixed Tryz.func76 rfl (by decide) (by decide) fun (v:Vx) hv (p:Int) _ _=>⟨fun _=>none,3,by
    have hv:=Vx.Wf.p hv
    show qH _ _ _ _ _ (fun t'=>t'=reT2 (Z1 v p)∨fgT t'=reT2 (Z1 v p))
    refine (rBoth_vc v p _).mpr (qB (fun h=>.inr ?_) fun h=>⟨⟨by omega,by omega⟩,qB (fun h1=>.inr ?_) fun h1=>⟨⟨by omega,by omega⟩,⟨by omega,by omega⟩,qB (fun h2=>.inr ?_) fun h2=>?_⟩⟩)
    · rw [Z1,if_neg (Qi.1 h)];rfl
    · rw [Z1,if_pos (qQ.1 h),if_neg (Qi.1 h1)];rfl
    · rw [Z1,if_pos (qQ.1 h),if_pos (qQ.1 h1),if_neg (Qi.1 h2)];rfl
    · have h1:=qQ.1 h1
      have h2:=qQ.1 h2
      have p1:=fault_pre hv.1 h1
      have p2:=fault_pre hv.2 h2
      have s1:=ZQ (fault0 hv.1 h1).1
      have s2:=ZQ (fault0 hv.2 h2).1
      have pp:=(fault0 hv.1 h1).2
      have z1:(ZA (QT v) p).Sm 67108864:=⟨(sineV_sm zZ p1).1,(sineV_sm zZ p2).2⟩
      have z2:=cosinesV_sm (v:=QT v) ⟨zZ,zZ⟩ p1 p2
      have goal:Z1 v p=both2 (cutR (ZA (QT v) p) p) (cutR (zF (QT v) p) p):=by rw [Z1,if_pos (qQ.1 h),if_pos h1,if_pos h2]
      rw [goal]
      refine ⟨⟨by omega,by omega⟩,s1.eB (by omega),s2.eB (by omega),rfl,⟨rfl,p1,p2⟩,⟨z1.mono (by omega),by omega,by omega⟩,rfl,⟨p1,p2⟩,⟨z2.mono (by omega),by omega,by omega⟩,rfl,qB (fun h3=>.inr ?_) fun h3=>qB (fun h4=>.inr ?_) fun h4=>⟨rfl,.inl ?_⟩⟩
      · rw [both2,if_neg (fun k=>Qi.1 h3 k.1)];rfl
      · rw [both2,if_neg (fun k=>Qi.1 h4 k.2)];rfl
      · rw [both2,if_pos ⟨qQ.1 h3,qQ.1 h4⟩];rfl⟩
def srK:LKeep:=⟨[2,6,7,8,9,10,11,12],[(1,6),(10,2),(14,2),(18,2),(19,2)],25⟩
def srSt(q:Int)(f:Int)(sq:Fx)(T S0 S1:Nat→Fx)(a:Nat×Bool):List (Nat×Tv)×List (Nat×Nat×At) :=
  ([(2,iT q),(6,.sv (.one (.ptr 1 0))),(7,.sv (.one (.ptr 10 0))),(8,.sv (.one (.ptr 14 0))),(9,.sv (.one (.ptr 18 0))),(10,.sv (.one (.ptr 19 0))),(11,.sv (.one (.int .u64 (f+2*(a.1:Nat))))),(12,bT (decide (a.1 % 2=0)))],
   [(1,0,.bool false),(1,1,.words true []),(1,2,.int .i64 0),(1,3,.bool false),(1,4,.words true []),(1,5,.int .i64 0)] ++ (clX 10 0 false (fw sq) ++ (clX 14 0 false (fw (T a.1)) ++ (clX 18 0 false (fw (S0 (a.1+1))) ++ clX 19 0 a.2 (fw (S1 (a.1+1)))))))
def srInv(q f:Int)(sq:Fx)(T S0 S1:Nat→Fx)(K:Nat):Nat→Option LInv:=invAt 6 (.rel srK (Nat×Bool) (srSt q f sq T S0 S1) (fun a=>a.1≤K) (fun a=>K-a.1))
def sSr:List (FuncId×qU):=[(28,gPoint),(20,gTimes),(164,elFix),(165,niOne),(167,niMul),(166,niSmall),(168,niAdd),(161,niSub),(130,niIval)]
theorem sSr_ok:SpecsOk Tryz.prog sSr:=⟨gPoint_ok,gTimes_ok,elFix_ok,niOne_ok,niMul_ok,niSmall_ok,niAdd_ok,niSub_ok,niIval_ok,trivial⟩
theorem hSer_vc(t:Dx)(f q:Int)(T S0 S1:Nat→Fx)(K:Nat)(Q:Tv→Prop):qH ⟨tys4,sSr⟩ (srInv q f (ZI (qK (qD t) (qD t) q) q) T S0 S1 K) 0 Tryz.f134 [.agg (dyL false t),.one (.int .u64 f),.one (.int .i64 q)] Q=(eB 4611686018427387904 t∧eB 4611686018427387904 t∧(Vx.Sm 268435456 (qD t)∧Vx.Sm 268435456 (qD t)∧(0:Int)≤q∧q≤1099511627776)∧(Vx.Sm 1073741824 (qK (qD t) (qD t) q)∧List.length (qK (qD t) (qD t) q).lo.xs≤1073741824∧List.length (qK (qD t) (qD t) q).hi.xs≤1073741824∧(0:Int)≤q∧q≤16777216∧(0:Int)≤(ZI (qK (qD t) (qD t) q) q).e∧(ZI (qK (qD t) (qD t) q) q).e≤1099511627776)∧true=true∧((0:Int)≤q∧q≤16777216)∧true=true∧(∃ (a:Nat×Bool),a.fst≤K∧Sg.mk [(2,iT q),(6,Tv.sv (Sv.one (At.ptr ((0:Nat)+1) 0))),(7,Tv.sv (Sv.one (At.ptr ((2:Nat)+8) 0))),(8,Tv.sv (Sv.one (At.ptr ((12:Nat)+2) 0))),(9,Tv.sv (Sv.one (At.ptr ((16:Nat)+2) 0))),(10,Tv.sv (Sv.one (At.ptr ((16:Nat)+3) 0))),(11,Tv.sv (Sv.one (At.int .u64 f))),(12,bT true)] [(1,0,At.bool false),(1,1,At.words true []),(1,2,At.int .i64 0),(1,3,At.bool false),(1,4,At.words true []),(1,5,At.int .i64 0),(10,0,At.words false (fw (ZI (qK (qD t) (qD t) q) q)).xs),(10,1,At.int .u64 (fw (ZI (qK (qD t) (qD t) q) q)).e),(14,0,At.words false (fw (Fx.mk ((2:Int)^Int.toNat q) 0)).xs),(14,1,At.int .u64 (fw (Fx.mk ((2:Int)^Int.toNat q) 0)).e),(18,0,At.words false (fw (Fx.mk ((2:Int)^Int.toNat q) 0)).xs),(18,1,At.int .u64 (fw (Fx.mk ((2:Int)^Int.toNat q) 0)).e),(19,0,At.words true []),(19,1,At.int .u64 0)] 25=LKeep.at srK (srSt q f (ZI (qK (qD t) (qD t) q) q) T S0 S1 a))∧∀ (a:Nat×Bool),a.fst≤K→br (ltI 0 (↑(List.length (fw (T a.fst)).xs):Int)) ((Fw.Ok (fw (T a.fst))∧Fw.Ok (fw (ZI (qK (qD t) (qD t) q) q))∧(0:Int)≤q∧q≤16777216∧(Xb (Fw.f (fw (T a.fst))) (Fw.f (fw (ZI (qK (qD t) (qD t) q) q))) q).e≤1099511627776)∧((0:Int)≤(fw (Xb (Fw.f (fw (T a.fst))) (Fw.f (fw (ZI (qK (qD t) (qD t) q) q))) q)).e∧(fw (Xb (Fw.f (fw (T a.fst))) (Fw.f (fw (ZI (qK (qD t) (qD t) q) q))) q)).e≤1099511627776∧(0:Int)<f+2*(↑a.fst:Int)∧f+2*(↑a.fst:Int)≤4294967296)∧((0:Int)≤(fw (qE (Fw.f (fw (Xb (Fw.f (fw (T a.fst))) (Fw.f (fw (ZI (qK (qD t) (qD t) q) q))) q))) (f+2*(↑a.fst:Int)))).e∧(fw (qE (Fw.f (fw (Xb (Fw.f (fw (T a.fst))) (Fw.f (fw (ZI (qK (qD t) (qD t) q) q))) q))) (f+2*(↑a.fst:Int)))).e≤1099511627776∧(0:Int)<IntKind.wrap IntKind.u64 (f+2*(↑a.fst:Int)+1)∧IntKind.wrap IntKind.u64 (f+2*(↑a.fst:Int)+1)≤4294967296)∧br (decide (a.fst % 2=(0:Nat))) ((Fw.Ok (fw (S1 (a.fst+1)))∧Fw.Ok (fw (qE (Fw.f (fw (qE (Fw.f (fw (Xb (Fw.f (fw (T a.fst))) (Fw.f (fw (ZI (qK (qD t) (qD t) q) q))) q))) (f+2*(↑a.fst:Int))))) (IntKind.wrap IntKind.u64 (f+2*(↑a.fst:Int)+1)))))∧true=true∧∃ (a':Nat×Bool),a'.fst≤K∧Sg.mk [(2,iT q),(6,Tv.sv (Sv.one (At.ptr 1 0))),(7,Tv.sv (Sv.one (At.ptr 10 0))),(8,Tv.sv (Sv.one (At.ptr 14 0))),(9,Tv.sv (Sv.one (At.ptr 18 0))),(10,Tv.sv (Sv.one (At.ptr 19 0))),(11,Tv.sv (Sv.one (At.int .u64 (IntKind.wrap IntKind.u64 (f+2*(↑a.fst:Int)+2))))),(12,bT !decide (a.fst % 2=(0:Nat)))] [(1,0,At.bool false),(1,1,At.words true []),(1,2,At.int .i64 0),(1,3,At.bool false),(1,4,At.words true []),(1,5,At.int .i64 0),(10,0,At.words false (fw (ZI (qK (qD t) (qD t) q) q)).xs),(10,1,At.int .u64 (fw (ZI (qK (qD t) (qD t) q) q)).e),(14,0,At.words false (fw (qE (Fw.f (fw (qE (Fw.f (fw (Xb (Fw.f (fw (T a.fst))) (Fw.f (fw (ZI (qK (qD t) (qD t) q) q))) q))) (f+2*(↑a.fst:Int))))) (IntKind.wrap IntKind.u64 (f+2*(↑a.fst:Int)+1)))).xs),(14,1,At.int .u64 (fw (qE (Fw.f (fw (qE (Fw.f (fw (Xb (Fw.f (fw (T a.fst))) (Fw.f (fw (ZI (qK (qD t) (qD t) q) q))) q))) (f+2*(↑a.fst:Int))))) (IntKind.wrap IntKind.u64 (f+2*(↑a.fst:Int)+1)))).e),(18,0,At.words false (fw (S0 (a.fst+1))).xs),(18,1,At.int .u64 (fw (S0 (a.fst+1))).e),(19,0,At.words false (fw (YY (Fw.f (fw (S1 (a.fst+1)))) (Fw.f (fw (qE (Fw.f (fw (qE (Fw.f (fw (Xb (Fw.f (fw (T a.fst))) (Fw.f (fw (ZI (qK (qD t) (qD t) q) q))) q))) (f+2*(↑a.fst:Int))))) (IntKind.wrap IntKind.u64 (f+2*(↑a.fst:Int)+1))))))).xs),(19,1,At.int .u64 (fw (YY (Fw.f (fw (S1 (a.fst+1)))) (Fw.f (fw (qE (Fw.f (fw (qE (Fw.f (fw (Xb (Fw.f (fw (T a.fst))) (Fw.f (fw (ZI (qK (qD t) (qD t) q) q))) q))) (f+2*(↑a.fst:Int))))) (IntKind.wrap IntKind.u64 (f+2*(↑a.fst:Int)+1))))))).e)] 25=LKeep.at srK (srSt q f (ZI (qK (qD t) (qD t) q) q) T S0 S1 a')∧K-a'.fst<K-a.fst) ((Fw.Ok (fw (S0 (a.fst+1)))∧Fw.Ok (fw (qE (Fw.f (fw (qE (Fw.f (fw (Xb (Fw.f (fw (T a.fst))) (Fw.f (fw (ZI (qK (qD t) (qD t) q) q))) q))) (f+2*(↑a.fst:Int))))) (IntKind.wrap IntKind.u64 (f+2*(↑a.fst:Int)+1)))))∧true=true∧∃ (a':Nat×Bool),a'.fst≤K∧Sg.mk [(2,iT q),(6,Tv.sv (Sv.one (At.ptr 1 0))),(7,Tv.sv (Sv.one (At.ptr 10 0))),(8,Tv.sv (Sv.one (At.ptr 14 0))),(9,Tv.sv (Sv.one (At.ptr 18 0))),(10,Tv.sv (Sv.one (At.ptr 19 0))),(11,Tv.sv (Sv.one (At.int .u64 (IntKind.wrap IntKind.u64 (f+2*(↑a.fst:Int)+2))))),(12,bT !decide (a.fst % 2=(0:Nat)))] [(1,0,At.bool false),(1,1,At.words true []),(1,2,At.int .i64 0),(1,3,At.bool false),(1,4,At.words true []),(1,5,At.int .i64 0),(10,0,At.words false (fw (ZI (qK (qD t) (qD t) q) q)).xs),(10,1,At.int .u64 (fw (ZI (qK (qD t) (qD t) q) q)).e),(14,0,At.words false (fw (qE (Fw.f (fw (qE (Fw.f (fw (Xb (Fw.f (fw (T a.fst))) (Fw.f (fw (ZI (qK (qD t) (qD t) q) q))) q))) (f+2*(↑a.fst:Int))))) (IntKind.wrap IntKind.u64 (f+2*(↑a.fst:Int)+1)))).xs),(14,1,At.int .u64 (fw (qE (Fw.f (fw (qE (Fw.f (fw (Xb (Fw.f (fw (T a.fst))) (Fw.f (fw (ZI (qK (qD t) (qD t) q) q))) q))) (f+2*(↑a.fst:Int))))) (IntKind.wrap IntKind.u64 (f+2*(↑a.fst:Int)+1)))).e),(18,0,At.words false (fw (YY (Fw.f (fw (S0 (a.fst+1)))) (Fw.f (fw (qE (Fw.f (fw (qE (Fw.f (fw (Xb (Fw.f (fw (T a.fst))) (Fw.f (fw (ZI (qK (qD t) (qD t) q) q))) q))) (f+2*(↑a.fst:Int))))) (IntKind.wrap IntKind.u64 (f+2*(↑a.fst:Int)+1))))))).xs),(18,1,At.int .u64 (fw (YY (Fw.f (fw (S0 (a.fst+1)))) (Fw.f (fw (qE (Fw.f (fw (qE (Fw.f (fw (Xb (Fw.f (fw (T a.fst))) (Fw.f (fw (ZI (qK (qD t) (qD t) q) q))) q))) (f+2*(↑a.fst:Int))))) (IntKind.wrap IntKind.u64 (f+2*(↑a.fst:Int)+1))))))).e),(19,0,At.words a.snd (fw (S1 (a.fst+1))).xs),(19,1,At.int .u64 (fw (S1 (a.fst+1))).e)] 25=LKeep.at srK (srSt q f (ZI (qK (qD t) (qD t) q) q) T S0 S1 a')∧K-a'.fst<K-a.fst)) ((Fw.Ok (Fw.mk (fw (S0 (a.fst+1))).xs (IntKind.wrap IntKind.u64 ((fw (S0 (a.fst+1))).e+4)))∧Fw.Ok (Fw.mk (fw (S1 (a.fst+1))).xs (IntKind.wrap IntKind.u64 ((fw (S1 (a.fst+1))).e+4)))∧(Fw.f (Fw.mk (fw (S1 (a.fst+1))).xs (IntKind.wrap IntKind.u64 ((fw (S1 (a.fst+1))).e+4)))).a+(Fw.f (Fw.mk (fw (S1 (a.fst+1))).xs (IntKind.wrap IntKind.u64 ((fw (S1 (a.fst+1))).e+4)))).e≤(Fw.f (Fw.mk (fw (S0 (a.fst+1))).xs (IntKind.wrap IntKind.u64 ((fw (S0 (a.fst+1))).e+4)))).a)∧(Fw.Ok (fw (subF (Fw.f (Fw.mk (fw (S0 (a.fst+1))).xs (IntKind.wrap IntKind.u64 ((fw (S0 (a.fst+1))).e+4)))) (Fw.f (Fw.mk (fw (S1 (a.fst+1))).xs (IntKind.wrap IntKind.u64 ((fw (S1 (a.fst+1))).e+4))))))∧(0:Int)≤q∧q≤16777216)∧Q (Tv.sv (Sv.agg (ivL true (ivF (Fw.f (fw (subF (Fw.f (Fw.mk (fw (S0 (a.fst+1))).xs (IntKind.wrap IntKind.u64 ((fw (S0 (a.fst+1))).e+4)))) (Fw.f (Fw.mk (fw (S1 (a.fst+1))).xs (IntKind.wrap IntKind.u64 ((fw (S1 (a.fst+1))).e+4))))))) q)))))):=by kernel_rfl
theorem cut_ws{d:Dx}{p:Int}{up:Bool}(hd:0≤d.m):(cutD d p up).xs=ws (cutD d p up).m:=by
  have m0:0≤(qC d).m:=zZ
  unfold cutD cutX
  split
  · exact mkD_ws hd
  · refine mkD_ws ?_
    have:=Int.ediv_nonneg m0 (show (0:Int)≤2^((blen (qC d).m:Int)-p).toNat by have:=two_pow_pos ((blen (qC d).m:Int)-p).toNat;omega)
    split<;>omega
theorem cut_len{d:Dx}{p:Int}{up:Bool}{N:Nat}(hd:0≤d.m)(h:(cutD d p up).Sm (64*N)):(cutD d p up).xs.length≤N:=by
  rw [cut_ws hd];exact QR Y8 h.1
def hSer:qU:=qF [.d,.i .u64,.i .i64] fun (t:Dx) (f:Int) (q:Int)=>(some (t.Sm 131072∧Qa t∧1≤f∧f≤2∧32≤q∧q≤65536),vT (altR f.toNat t q))
theorem hSer_ok:SpecOk Tryz.prog 134 hSer :=
  qG (qO Zy sSr_ok) mixed Tryz.func134 rfl (by decide) (by decide) fun (t:Dx) ht (f:Int) _ (q:Int) _ hp=>by
    obtain ⟨st,⟨t1,t2⟩,f1,f2,w0,w1⟩:t.Sm 131072∧Qa t∧1≤f∧f≤2∧32≤q∧q≤65536:=hp
    obtain ⟨n,rfl⟩:∃ n:Nat,f=n:=⟨f.toNat,by omega⟩
    have m0:=Dx.Wf.m0 ht
    have A:=sqR_alt m0 t1 t2 (f:=n) (by omega) (by omega) w0 w1
    have so:=A.sqOk
    have z1:=Xd m0 st
    have z2:=timesV_sm (zJ t) (zJ t) z1 z1 (p:=q) (by omega)
    obtain ⟨k1,k2,k3,k4⟩:=Xc A
    have d:=altD_bd A (K:=altK n (sqR t q) q+1) (by omega) (by omega) (c:=4) (by omega) (by omega)
    have e0:0≤(sqR t q).e∧(sqR t q).e≤16:=⟨A.hsq.e0,A.he⟩
    have hsq:ZI (qK (qD t) (qD t) q) q=sqR t q:=rfl
    have goal:vT (altR n t q)=vT (ivF (subF (zN (ZT n (sqR t q) q 0 (altK n (sqR t q) q+1)) 4) (zN (ZT n (sqR t q) q 1 (altK n (sqR t q) q+1)) 4)) q):=rfl
    refine ⟨srInv q n (sqR t q) (ZS n (sqR t q) q) (ZT n (sqR t q) q 0) (ZT n (sqR t q) q 1) (altK n (sqR t q) q),0,?_⟩
    show qH _ _ _ _ _ (fun t'=>t'=vT (altR n t q))
    refine (hSer_vc t n q _ _ _ _ _).mpr ?_
    rw [hsq,goal]
    have dd:subF (zN (ZT n (sqR t q) q 0 (altK n (sqR t q) q+1)) 4) (zN (ZT n (sqR t q) q 1 (altK n (sqR t q) q+1)) 4)=altD n (sqR t q) q (altK n (sqR t q) q+1) 4:=rfl
    rw [←dd] at d
    clear goal dd
    generalize sqR t q=sq at *
    generalize hK:altK n sq q=K at *
    have pt:eB 4611686018427387904 t:=st.eB (by omega)
    have p0:=two_pow_pos q.toNat
    have l1:(qK (qD t) (qD t) q).lo.xs.length≤1073741824:=cut_len (N:=1073741824) (prodV_p _ _).1 (Dx.Sm.mono z2.1 (by omega))
    have l2:(qK (qD t) (qD t) q).hi.xs.length≤1073741824:=cut_len (N:=1073741824) (prodV_p _ _).2 (Dx.Sm.mono z2.2 (by omega))
    refine ⟨pt,pt,⟨z1.mono (by omega),z1.mono (by omega),by omega,by omega⟩,⟨z2.mono (by omega),l1,l2,by omega,by omega,e0.1,by omega⟩,rfl,⟨by omega,by omega⟩,rfl,⟨(0,true),Nat.zero_le _,?_⟩,fun a ha=>?_⟩
    · have q1:fw (ZT n sq q 1 (0+1))=⟨[],0⟩:=by show (⟨ws 0,0⟩:Fw)=_;rw [Zk]
      have q0:fw (ZT n sq q 0 (0+1))=fw ⟨2^q.toNat,0⟩:=by
        show fw (YY ⟨0,0⟩ ⟨2^q.toNat,0⟩)=_
        show (⟨ws (0+2^q.toNat),0+0⟩:Fw)=⟨ws (2^q.toNat),0⟩
        rw [Int.zero_add,Int.zero_add]
      unfold LKeep.at srSt
      rw [q0,q1,show ((0:Nat):Int)=0 from rfl,Int.mul_zero,Int.add_zero]
      rfl
    · obtain ⟨k,b⟩:=a
      have ha:k≤K:=ha
      obtain ⟨tok,te⟩:=altT_ok A k
      have o0:=altM_ok A 0 (k:=k+1) (by omega)
      have o1:=altM_ok A 1 (k:=k+1) (by omega)
      have hin:=Zz A k
      have hx:(ltI 0 (((fw (ZS n sq q k)).xs.length:Nat):Int))=decide ((ZS n sq q k).a≠0):=YV tok.1
      have ft:(fw (ZS n sq q k)).f=ZS n sq q k:=XD tok.1
      have fs:(fw sq).f=sq:=XD so.1
      have m:=mulF_e0 (w:=q) tok so
      have me:(Xb (ZS n sq q k) sq q).e≤40:=by
        have P:=p2_32 w0
        have a1:=hin.le_one (by omega) (tmf_le1 A.f1 A.x0 A.x1 k)
        have a2:=A.hsq.le_one (by omega) A.x1
        have e1:=altT_e A k
        have:=mulF_e (w:=q) hin.e0 A.hsq.e0 a1 a2 (by have:=Int.mul_le_mul e1 e0.2 e0.1 (by omega);omega)
        omega
      have fm:(fw (Xb (ZS n sq q k) sq q)).f=Xb (ZS n sq q k) sq q:=XD m.1
      have s1:=shortF_e0 (d:=(n:Int)+2*(k:Int)) m.1 m.2 (by omega)
      have fs1:(fw (qE (Xb (ZS n sq q k) sq q) ((n:Int)+2*(k:Int)))).f=qE (Xb (ZS n sq q k) sq q) ((n:Int)+2*(k:Int)):=XD s1.1
      have w1':IntKind.u64.wrap ((n:Int)+2*(k:Int)+1)=(n:Int)+2*(k:Int)+1:=ZY ⟨by omega,by omega⟩
      have w2':IntKind.u64.wrap ((n:Int)+2*(k:Int)+2)=(n:Int)+2*((k+1:Nat):Int):=by rw [ZY ⟨by omega,by omega⟩];omega
      have step:qE (qE (Xb (ZS n sq q k) sq q) ((n:Int)+2*(k:Int))) ((n:Int)+2*(k:Int)+1)=ZS n sq q (k+1):=by
        show _=stepA n sq q (ZS n sq q k) ((k+1:Nat):Int)
        rw [stepA_eq,show ((n+2*k:Nat):Int)=(n:Int)+2*(k:Int) by omega,show ((n+2*k+1:Nat):Int)=(n:Int)+2*(k:Int)+1 by omega]
      obtain ⟨tok1,te1⟩:=altT_ok A (k+1)
      have ft1:(fw (ZS n sq q (k+1))).f=ZS n sq q (k+1):=XD tok1.1
      have f0:(fw (ZT n sq q 0 (k+1))).f=ZT n sq q 0 (k+1):=XD o0.1
      have f1':(fw (ZT n sq q 1 (k+1))).f=ZT n sq q 1 (k+1):=XD o1.1
      have fe:∀ z:Fx,(fw z).e=z.e:=fun _=>rfl
      dsimp only
      rw [hx,ft,fs,fm,fs1,w1',w2',step,ft1,f0,f1',fe,fe]
      refine qB (fun h=>?_) fun h=>?_
      · have h:(ZS n sq q k).a≠0:=by simpa using h
        have hk:k<K:=by
          rcases Nat.lt_or_ge k K with c | c
          · exact c
          · rw [show k=K by omega] at h;exact absurd k3 h
        refine ⟨⟨tok.w,so.w,by omega,by omega,by omega⟩,⟨m.2,by omega,by omega,by omega⟩,⟨by omega,by omega,by omega,by omega⟩,qB (fun h2=>⟨⟨o1.w,tok1.w⟩,rfl,(k+1,false),hk,?_,by show K-(k+1)<K-k;omega⟩) fun h2=>⟨⟨o0.w,tok1.w⟩,rfl,(k+1,b),hk,?_,by show K-(k+1)<K-k;omega⟩⟩
        · have h2:k % 2=0:=by simpa using h2
          have g1:ZT n sq q 1 (k+1+1)=YY (ZT n sq q 1 (k+1)) (ZS n sq q (k+1)):=if_pos (by omega)
          have g0:ZT n sq q 0 (k+1+1)=ZT n sq q 0 (k+1):=if_neg (by omega)
          have g2:(!decide (k % 2=0))=decide ((k+1) % 2=0):=by rw [decide_eq_true h2,decide_eq_false (show ¬ (k+1) % 2=0 by omega)];rfl
          unfold LKeep.at srSt
          rw [g0,g1,g2];rfl
        · have h2:¬ k % 2=0:=by simpa using h2
          have g0:ZT n sq q 0 (k+1+1)=YY (ZT n sq q 0 (k+1)) (ZS n sq q (k+1)):=if_pos (by omega)
          have g1:ZT n sq q 1 (k+1+1)=ZT n sq q 1 (k+1):=if_neg (by omega)
          have g2:(!decide (k % 2=0))=decide ((k+1) % 2=0):=by rw [decide_eq_false h2,decide_eq_true (show (k+1) % 2=0 by omega)];rfl
          unfold LKeep.at srSt
          rw [g0,g1,g2];rfl
      · have h:(ZS n sq q k).a=0:=by simpa using h
        have hk:k=K:=by
          rcases Nat.eq_zero_or_pos k with c | c
          · subst c
            have:(2:Int)^q.toNat=0:=h
            omega
          · rcases Nat.lt_or_ge k K with c2 | c2
            · exact absurd h (k4 k c c2)
            · omega
        subst hk
        have m0':=altM_e A 0 (k+1)
        have m1':=altM_e A 1 (k+1)
        have w4:∀ z:Fx,z.Ok→z.e≤2097152→Fw.mk (fw z).xs (IntKind.u64.wrap (z.e+4))=fw (zN z 4):=fun z hz h=>by rw [ZY ⟨by have:=hz.2.2;omega,by omega⟩];rfl
        have ok:∀ {z:Fx},z.Ok→z.e≤2097152→(zN z 4).Ok:=fun hz he=>⟨hz.1,hz.2.1,show 0≤_+_ by have:=hz.2.2.1;omega,show _+_≤_ by omega⟩
        have p0:=ok o0 (by omega)
        have p1:=ok o1 (by omega)
        rw [fe,fe,w4 _ o0 (by omega),w4 _ o1 (by omega),XD p0.1,XD p1.1]
        have le:(zN (ZT n sq q 1 (k+1)) 4).a+(zN (ZT n sq q 1 (k+1)) 4).e≤(zN (ZT n sq q 0 (k+1)) 4).a:=by
          have:(subF (zN (ZT n sq q 0 (k+1)) 4) (zN (ZT n sq q 1 (k+1)) 4)).a=(zN (ZT n sq q 0 (k+1)) 4).a-((zN (ZT n sq q 1 (k+1)) 4).a+(zN (ZT n sq q 1 (k+1)) 4).e):=rfl
          omega
        generalize subF (zN (ZT n sq q 0 (k+1)) 4) (zN (ZT n sq q 1 (k+1)) 4)=z at *
        have zo:z.Ok:=by
          have:blen z.a≤q.toNat+1+1+1:=QN (by rw [Int.pow_succ,Int.pow_succ];omega)
          exact ⟨by omega,by omega,by omega,by omega⟩
        rw [XD zo.1]
        exact ⟨⟨p0.w,p1.w,le⟩,⟨zo.w,by omega,by omega⟩,rfl⟩
def sH1:List (FuncId×qU):=(134,hSer) :: sG3
theorem sH1_ok:SpecsOk Tryz.prog sH1:=⟨hSer_ok,sG3_ok⟩
def QG(t:Dx)(p:Int):Vx:=if t.zeroB=true then zeroIv else qK (qD t) (altR 2 t (p+48)) (p+48)
def qP(t:Dx)(p:Int):Vx:=altR 1 t (p+48)
theorem altR_sm{t:Dx}{f:Nat}{w:Int}(ht:0≤t.m)(h:Qa t)(f1:1≤f)(f2:f≤2)(w0:32≤w)(w1:w≤65536):(altR f t w).Sm 262144 :=
  (altR_iv (sqR_alt ht h.1 h.2 f1 f2 w0 w1)).sm (by omega) w1
def hSine:qU:=qF [.d,.i .i64] fun (t:Dx) (p:Int)=>(some (preS t p),vF (QG t p))
theorem hSine_vc(t:Dx)(p:Int)(Q:Tv→Prop):qH ⟨tys4,sH1⟩ (fun _=>none) 0 Tryz.f98 [.agg (dyL false t),.one (.int .i64 p)] Q=(br (Dx.zeroB t) (Q (Tv.sv (Sv.agg [At.bool false,At.words true [],At.int .i64 0,At.bool false,At.words true [],At.int .i64 0]))) (inR (p+48)∧eB 4611686018427387904 t∧(Dx.Sm 131072 t∧Qa t∧(1:Int)≤2∧(2:Int)≤2∧(32:Int)≤p+48∧p+48≤65536)∧(Vx.Sm 268435456 (qD t)∧Vx.Sm 268435456 (altR 2 t (p+48))∧(0:Int)≤p+48∧p+48≤1099511627776)∧true=true∧Q (Tv.sv (Sv.agg (ivL true (qK (qD t) (altR 2 t (p+48)) (p+48))))))):=by kernel_rfl
theorem hSine_ok:SpecOk Tryz.prog 98 hSine :=
  zA (qO Zy sH1_ok) mixed Tryz.func98 rfl (by decide) (by decide) fun (t:Dx) ht (p:Int) _ hp=>⟨fun _=>none,0,by
    obtain ⟨st,h1,p0,p1⟩:preS t p:=hp
    have m0:=Dx.Wf.m0 ht
    have z1:=Xd m0 st
    have z3:=altR_sm m0 h1 (f:=2) (w:=p+48) (by omega) (by omega) (by omega) (by omega)
    show qH _ _ _ _ _ (fun t'=>t'=vF (QG t p)∨fgT t'=vF (QG t p))
    refine (hSine_vc t p _).mpr (qB (fun h=>.inr ?_) fun h=>⟨⟨by omega,by omega⟩,st.eB (by omega),⟨st,h1,by omega,by omega,by omega,by omega⟩,⟨z1.mono (by omega),z3.mono (by omega),by omega,by omega⟩,rfl,.inr ?_⟩)
    · rw [QG,if_pos h];rfl
    · rw [QG,if_neg (by rw [h];simp)];rfl⟩
def hCosine:qU:=qF [.d,.i .i64] fun (t:Dx) (p:Int)=>(some (preS t p),vT (qP t p))
theorem hCosine_vc(t:Dx)(p:Int)(Q:Tv→Prop):qH ⟨tys4,sH1⟩ (fun _=>none) 0 Tryz.f99 [.agg (dyL false t),.one (.int .i64 p)] Q=(inR (p+48)∧(Dx.Sm 131072 t∧Qa t∧(1:Int)≤1∧(1:Int)≤2∧(32:Int)≤p+48∧p+48≤65536)∧Q (Tv.sv (Sv.agg (ivL true (altR 1 t (p+48)))))):=by kernel_rfl
theorem hCosine_ok:SpecOk Tryz.prog 99 hCosine :=
  qG (qO Zy sH1_ok) mixed Tryz.func99 rfl (by decide) (by decide) fun (t:Dx) _ (p:Int) _ hp=>⟨fun _=>none,0,by
    obtain ⟨st,h1,p0,p1⟩:preS t p:=hp
    exact (hCosine_vc t p _).mpr ⟨⟨by omega,by omega⟩,⟨st,h1,by omega,by omega,by omega,by omega⟩,rfl⟩⟩
def sH2:List (FuncId×qU):=[(98,hSine),(99,hCosine)] ++ sG3
theorem sH2_ok:SpecsOk Tryz.prog sH2:=⟨hSine_ok,hCosine_ok,sG3_ok⟩
def sH3:List (FuncId×qU):=sH2
theorem sH3_ok:SpecsOk Tryz.prog sH3:=sH2_ok
def ZN(v:Vx)(p:Int):Vx:=⟨(QG v.lo p).lo,(QG v.hi p).hi⟩
def YP(a b:Vx):Vx:=⟨if QJ b.lo a.lo<0 then b.lo else a.lo,if 0<QJ b.hi a.hi then b.hi else a.hi⟩
def zO(v:Vx)(p:Int):Vx:=if ZP v=true then ⟨(YP (qP v.lo p) (qP v.hi p)).lo,mkS 1 0⟩ else YP (qP v.lo p) (qP v.hi p)
theorem hOver_vc(v:Vx)(p:Int)(Q:Tv→Prop):qH ⟨tys4,sH3⟩ (fun _=>none) 0 Tryz.f73 [.agg (ivL false v),.one (.int .i64 p)] Q=(preS v.lo p∧preS v.hi p∧true=true∧preS v.lo p∧preS v.hi p∧true=true∧(Dx.Sm 34359738368 (qP v.hi p).lo∧Dx.Sm 34359738368 (qP v.lo p).lo)∧br (ltI (QJ (qP v.hi p).lo (qP v.lo p).lo) 0) ((Dx.Sm 34359738368 (qP v.hi p).hi∧Dx.Sm 34359738368 (qP v.lo p).hi)∧br (ltI 0 (QJ (qP v.hi p).hi (qP v.lo p).hi)) (br (leI (Dx.sgn v.lo) 0) (br (leI 0 (Dx.sgn v.hi)) (inR 1∧true=true∧Q (Tv.tup [Sv.agg (ivL false (Vx.mk (QG v.lo p).lo (QG v.hi p).hi)),Sv.agg (ivL true (Vx.mk (qP v.hi p).lo (mkS 1 0)))])) (true=true∧Q (Tv.tup [Sv.agg (ivL false (Vx.mk (QG v.lo p).lo (QG v.hi p).hi)),Sv.agg (ivL true (qP v.hi p))]))) (true=true∧Q (Tv.tup [Sv.agg (ivL false (Vx.mk (QG v.lo p).lo (QG v.hi p).hi)),Sv.agg (ivL true (qP v.hi p))]))) (br (leI (Dx.sgn v.lo) 0) (br (leI 0 (Dx.sgn v.hi)) (inR 1∧true=true∧Q (Tv.tup [Sv.agg (ivL false (Vx.mk (QG v.lo p).lo (QG v.hi p).hi)),Sv.agg (ivL true (Vx.mk (qP v.hi p).lo (mkS 1 0)))])) (true=true∧Q (Tv.tup [Sv.agg (ivL false (Vx.mk (QG v.lo p).lo (QG v.hi p).hi)),Sv.agg (ivL true (Vx.mk (qP v.hi p).lo (qP v.lo p).hi))]))) (true=true∧Q (Tv.tup [Sv.agg (ivL false (Vx.mk (QG v.lo p).lo (QG v.hi p).hi)),Sv.agg (ivL true (Vx.mk (qP v.hi p).lo (qP v.lo p).hi))])))) ((Dx.Sm 34359738368 (qP v.hi p).hi∧Dx.Sm 34359738368 (qP v.lo p).hi)∧br (ltI 0 (QJ (qP v.hi p).hi (qP v.lo p).hi)) (br (leI (Dx.sgn v.lo) 0) (br (leI 0 (Dx.sgn v.hi)) (inR 1∧true=true∧Q (Tv.tup [Sv.agg (ivL false (Vx.mk (QG v.lo p).lo (QG v.hi p).hi)),Sv.agg (ivL true (Vx.mk (qP v.lo p).lo (mkS 1 0)))])) (true=true∧Q (Tv.tup [Sv.agg (ivL false (Vx.mk (QG v.lo p).lo (QG v.hi p).hi)),Sv.agg (ivL true (Vx.mk (qP v.lo p).lo (qP v.hi p).hi))]))) (true=true∧Q (Tv.tup [Sv.agg (ivL false (Vx.mk (QG v.lo p).lo (QG v.hi p).hi)),Sv.agg (ivL true (Vx.mk (qP v.lo p).lo (qP v.hi p).hi))]))) (br (leI (Dx.sgn v.lo) 0) (br (leI 0 (Dx.sgn v.hi)) (inR 1∧true=true∧Q (Tv.tup [Sv.agg (ivL false (Vx.mk (QG v.lo p).lo (QG v.hi p).hi)),Sv.agg (ivL true (Vx.mk (qP v.lo p).lo (mkS 1 0)))])) (true=true∧Q (Tv.tup [Sv.agg (ivL false (Vx.mk (QG v.lo p).lo (QG v.hi p).hi)),Sv.agg (ivL true (qP v.lo p))]))) (true=true∧Q (Tv.tup [Sv.agg (ivL false (Vx.mk (QG v.lo p).lo (QG v.hi p).hi)),Sv.agg (ivL true (qP v.lo p))]))))):=by kernel_rfl
def vvT(v u:Vx):Tv:=.tup [.agg (ivL false v),.agg (ivL false u)]
def hOver:qU:=qF [.v,.i .i64] fun (v:Vx) (p:Int)=>(some (preS v.lo p∧preS v.hi p),vvT (ZN v p) (zO v p))
theorem over_leaf{v:Vx}{p:Int}{X Y:Dx}(h:YP (qP v.lo p) (qP v.hi p)=⟨X,Y⟩) :
    br (leI v.lo.sgn 0) (br (leI 0 v.hi.sgn) (inR 1∧true=true∧(Tv.tup [Sv.agg (ivL false ⟨(QG v.lo p).lo,(QG v.hi p).hi⟩),Sv.agg (ivL true ⟨X,mkS 1 0⟩)]=vvT (ZN v p) (zO v p)∨fgT (Tv.tup [Sv.agg (ivL false ⟨(QG v.lo p).lo,(QG v.hi p).hi⟩),Sv.agg (ivL true ⟨X,mkS 1 0⟩)])=vvT (ZN v p) (zO v p)))
      (true=true∧(Tv.tup [Sv.agg (ivL false ⟨(QG v.lo p).lo,(QG v.hi p).hi⟩),Sv.agg (ivL true ⟨X,Y⟩)]=vvT (ZN v p) (zO v p)∨fgT (Tv.tup [Sv.agg (ivL false ⟨(QG v.lo p).lo,(QG v.hi p).hi⟩),Sv.agg (ivL true ⟨X,Y⟩)])=vvT (ZN v p) (zO v p))))
      (true=true∧(Tv.tup [Sv.agg (ivL false ⟨(QG v.lo p).lo,(QG v.hi p).hi⟩),Sv.agg (ivL true ⟨X,Y⟩)]=vvT (ZN v p) (zO v p)∨fgT (Tv.tup [Sv.agg (ivL false ⟨(QG v.lo p).lo,(QG v.hi p).hi⟩),Sv.agg (ivL true ⟨X,Y⟩)])=vvT (ZN v p) (zO v p))):=by
  unfold zO ZP
  rw [h]
  refine qB (fun a=>qB (fun b=>⟨⟨by omega,by omega⟩,rfl,.inr ?_⟩) fun b=>⟨rfl,.inr ?_⟩) fun a=>⟨rfl,.inr ?_⟩
  · rw [if_pos (by rw [show decide (v.lo.sgn≤0)=true from a,show decide (0≤v.hi.sgn)=true from b];rfl)];rfl
  · rw [if_neg (by rw [show decide (0≤v.hi.sgn)=false from b,Bool.and_false];simp)];rfl
  · rw [if_neg (by rw [show decide (v.lo.sgn≤0)=false from a,Bool.false_and];simp)];rfl
theorem hOver_ok:SpecOk Tryz.prog 73 hOver :=
  zA (qO Zy sH3_ok) mixed Tryz.func73 rfl (by decide) (by decide) fun (v:Vx) hv (p:Int) _ hp=>⟨fun _=>none,0,by
    obtain ⟨h1,h2⟩:preS v.lo p∧preS v.hi p:=hp
    have hv:=Vx.Wf.p hv
    have z:∀ {t:Dx},0≤t.m→preS t p→(qP t p).Sm 34359738368:=fun ht h=>(altR_sm ht h.2.1 (by omega) (by omega) (by have:=h.2.2;omega) (by have:=h.2.2;omega)).mono (by omega)
    have z1:=z hv.1 h1
    have z2:=z hv.2 h2
    show qH _ _ _ _ _ (fun t=>t=vvT (ZN v p) (zO v p)∨fgT t=vvT (ZN v p) (zO v p))
    refine (hOver_vc v p _).mpr ⟨h1,h2,rfl,h1,h2,rfl,⟨z2.1,z1.1⟩,qB (fun a=>⟨⟨z2.2,z1.2⟩,qB (fun b=>over_leaf (X:=(qP v.hi p).lo) (Y:=(qP v.hi p).hi) ?_) fun b=>over_leaf (X:=(qP v.hi p).lo) (Y:=(qP v.lo p).hi) ?_⟩) fun a=>⟨⟨z2.2,z1.2⟩,qB (fun b=>over_leaf (X:=(qP v.lo p).lo) (Y:=(qP v.hi p).hi) ?_) fun b=>over_leaf (X:=(qP v.lo p).lo) (Y:=(qP v.lo p).hi) ?_⟩⟩
    · unfold YP;rw [if_pos (qW.1 a),if_pos (qW.1 b)]
    · unfold YP;rw [if_pos (qW.1 a),if_neg (qJ.1 b)]
    · unfold YP;rw [if_neg (qJ.1 a),if_pos (qW.1 b)]
    · unfold YP;rw [if_neg (qJ.1 a),if_neg (qJ.1 b)]⟩
def OneF(d:Dx):Prop:=∃ n m e,(0:Int)≤m∧d=mkD n m e
theorem OneF.p{d:Dx}(h:OneF d):0≤d.m:=by obtain ⟨n,m,e,h,rfl⟩:=h;exact mkD_p
theorem OneF.odd{d:Dx}(h:OneF d)(h0:d.m≠0):d.m % 2=1:=by
  obtain ⟨n,m,e,h,rfl⟩:=h
  have:m≠0:=fun k=>h0 ((Zw (neg:=n) (e:=e) h).2 k)
  exact mkD_odd (by omega)
theorem OneF.zero{d:Dx}(h:OneF d)(h0:d.m=0):d=⟨false,[],0⟩:=by
  obtain ⟨n,m,e,h,rfl⟩:=h
  rw [(Zw (neg:=n) (e:=e) h).1 h0,Zd]
theorem oneD_f{d:Dx}(hd:0≤d.m):OneF (qC d):=⟨_,_,_,hd,rfl⟩
theorem YI{d:Dx}{p:Int}{up:Bool}(hd:0≤d.m):OneF (cutD d p up):=by
  have m0:0≤(qC d).m:=zZ
  unfold cutD cutX
  split
  · exact oneD_f hd
  · have:=Int.ediv_nonneg m0 (show (0:Int)≤2^((blen (qC d).m:Int)-p).toNat by have:=two_pow_pos ((blen (qC d).m:Int)-p).toNat;omega)
    exact ⟨_,_,_,by split<;>omega,rfl⟩
theorem fits_rp{d:Dx}(h:OneF d){p A B:Int}(hr:Rp p d.rv)(hp:p≤32768)(hA:d.m≠0→p2 A≤(d.m:Rat)*p2 d.e)(hB:(d.m:Rat)*p2 d.e≤p2 B)(h1:-32768≤A-p)(h2:B≤32768):d.fitsB=true:=by
  have m0:=h.p
  by_cases hz:d.m=0
  · rw [h.zero hz];decide +kernel
  · have hodd:=h.odd hz
    obtain ⟨s,e,hs,s1,s2⟩:=hr
    have amt:(d.m:Rat)*p2 d.e=((s.natAbs:Int):Rat)*p2 e:=by
      obtain ⟨a1,a2⟩:=QX m0
      rcases (show 0≤d.rv∨d.rv≤0 by grind) with c | c
      · rw [←a1 c,hs]
        have:0≤s:=by
          have:=qL e
          rcases (show s<0∨0≤s by omega) with k | k
          · have k2:(s:Rat)<0:=QA.2 k
            have:=Rat.mul_pos (show (0:Rat) < -(s:Rat) by grind) this
            grind
          · exact k
        rw [show (s.natAbs:Int)=s by omega]
      · rw [←a2 c,hs]
        have:s≤0:=by
          have:=qL e
          rcases (show 0<s∨s≤0 by omega) with k | k
          · have k2:(0:Rat)<(s:Rat):=QA.2 k
            have:=Rat.mul_pos k2 this
            grind
          · exact k
        rw [show (s.natAbs:Int) = -s by omega,Rat.intCast_neg];grind
    have hsa:((s.natAbs:Int):Rat)<p2 p:=by
      rcases (show (s.natAbs:Int)=s∨(s.natAbs:Int) = -s by omega) with c | c
      · rw [c];exact s1
      · rw [c,Rat.intCast_neg];grind
    have hm:d.m≤(s.natAbs:Int):=by
      rcases (show d.e<e∨e≤d.e by omega) with k | k
      · exfalso
        have e1:(d.m:Rat)=((s.natAbs*2^(e-d.e).toNat:Int):Rat):=by
          rw [rcM,←zU (show 0≤e-d.e by omega)]
          have:=p2_sub e d.e
          have q:=qL d.e
          have h3:(d.m:Rat)*p2 d.e=((s.natAbs:Int):Rat)*p2 (e-d.e)*p2 d.e:=by rw [Rat.mul_assoc,this];exact amt
          have l1:=(Qo (a:=(d.m:Rat)) (b:=((s.natAbs:Int):Rat)*p2 (e-d.e)) d.e).1 (by rw [h3];exact Rat.le_refl)
          have l2:=(Qo (b:=(d.m:Rat)) (a:=((s.natAbs:Int):Rat)*p2 (e-d.e)) d.e).1 (by rw [h3];exact Rat.le_refl)
          exact Rat.le_antisymm l1 l2
        have e2:=Rat.intCast_inj.1 e1
        obtain ⟨j,hj⟩:∃ j,(e-d.e).toNat=j+1:=⟨(e-d.e).toNat-1,by omega⟩
        rw [hj,Int.pow_succ,←Int.mul_assoc] at e2
        omega
      · have q:p2 e≤p2 d.e:=Qz (by omega)
        have h3:=rmL q (show (0:Rat)≤(d.m:Rat) from zG.2 m0)
        rw [amt] at h3
        exact zG.1 ((Qo e).1 h3)
    have hmp:(d.m:Rat)<p2 p:=by have:=zG.2 hm;grind
    have hp0:0<p:=by
      have:p2 0<p2 p:=by rw [ZX];have:(1:Rat)≤(d.m:Rat):=zG.2 (show (1:Int)≤d.m by omega);grind
      exact p2_lt_iff.1 this
    have hb:blen d.m≤p.toNat:=QW (by rw [zU (by omega)] at hmp;exact QA.1 hmp)
    have a1:=amt_ge (m:=d.m) (e:=d.e) (by omega)
    have a2:=amt_lt (m:=d.m) (e:=d.e)
    have e1:A<d.e+(blen d.m:Int):=p2_lt_iff.1 (by have:=hA hz;grind)
    have e2:d.e+(blen d.m:Int)-1≤B:=by
      rcases (show B<(d.e+(blen d.m:Int)-1)∨(d.e+(blen d.m:Int)-1)≤B by omega) with k | k
      · have:=p2_lt k;grind
      · exact k
    have hbp:=Zm (n:=d.m) (by omega)
    have hl:(ws d.m).length≤1024:=QR m0 (by omega)
    unfold Dx.fitsB Yr
    rw [decide_eq_false (by omega),decide_eq_true (show -32768≤d.e by omega),decide_eq_true (show d.e≤32768 by omega)]
    rfl
theorem fits_mk{n:Bool}{a e:Int}{N:Nat}(a0:0≤a)(hb:blen a≤N)(_:N≤65536)(h1:-32768≤e)(h2:e+N≤32768)(h0:e≤32768):(mkD n a e).fitsB=true:=by
  by_cases hz:a=0
  · rw [hz,Zd];decide +kernel
  · have t:=XA (n:=a) (by omega)
    have hm:(mkD n a e).m≤a:=by rw [mkD_m a0];exact Int.ediv_le_self _ a0
    have hl:(ws (mkD n a e).m).length≤1024:=QR mkD_p (by have:=ZK (m:=(mkD n a e).m) (n:=a) hm;omega)
    have he:(mkD n a e).e=e+(tz a:Int):=by unfold mkD;rw [if_neg hz]
    unfold Dx.fitsB Yr
    rw [he,decide_eq_false (by omega),decide_eq_true (show -32768≤e+(tz a:Int) by omega),decide_eq_true (show e+(tz a:Int)≤32768 by omega)]
    rfl
def NarV(δ:Rat)(v:Vx):Prop:=Nar δ v.lo.rv v.hi.rv∨Nar δ (-v.hi.rv) (-v.lo.rv)
theorem NarV.mono{δ η:Rat}{v:Vx}(h:NarV δ v)(k:δ≤η):NarV η v:=h.elim (fun h=>.inl (h.mono k)) fun h=>.inr (h.mono k)
theorem NarV.trim{δ:Rat}{v:Vx}{p:Int}(hv:v.P)(h:NarV δ v)(d0:0≤δ)(hp:1≤p)(he:4*eps p≤1):NarV (2*δ+4*eps p) (qV v p):=by
  obtain ⟨b1,b2⟩:=Zr hv hp
  rcases h with h | h
  · exact .inl (h.trim d0 hp he b1 b2)
  · exact .inr (h.trim d0 hp he b2.neg b1.neg)
theorem prod_pos{v u:Vx}(hv:v.P)(hu:u.P)(a0:0<v.lo.rv)(a1:v.lo.rv≤v.hi.rv)(c0:0<u.lo.rv)(c1:u.lo.rv≤u.hi.rv):(prodV v u).lo.rv=v.lo.rv*u.lo.rv∧(prodV v u).hi.rv=v.hi.rv*u.hi.rv:=by
  have l:=prod_lo hv hu
  obtain ⟨⟨x,y,hx,hy,h⟩,x',y',hx',hy',h'⟩:=prod_at hv hu
  have mono:∀ x y,(x=v.lo.rv∨x=v.hi.rv)→(y=u.lo.rv∨y=u.hi.rv)→v.lo.rv*u.lo.rv≤x*y∧x*y≤v.hi.rv*u.hi.rv:=fun x y hx hy=>by
    have x0:v.lo.rv≤x∧x≤v.hi.rv:=by rcases hx with rfl | rfl<;>exact ⟨by grind,by grind⟩
    have y0:u.lo.rv≤y∧y≤u.hi.rv:=by rcases hy with rfl | rfl<;>exact ⟨by grind,by grind⟩
    have m1:=rmR x0.1 (rlL c0)
    have m2:=rmL y0.1 (show 0≤x by grind)
    have m3:=rmR x0.2 (show 0≤y by grind)
    have m4:=rmL y0.2 (show 0≤v.hi.rv by grind)
    exact ⟨by grind,by grind⟩
  have a:=(l _ _ (.inl rfl) (.inl rfl)).1
  have b:=(l _ _ (.inr rfl) (.inr rfl)).2
  have c:=(mono x y hx hy).1
  have d:=(mono x' y' hx' hy').2
  exact ⟨by grind,by grind⟩
theorem prod_neg{v u:Vx}(hv:v.P)(hu:u.P)(a0:v.hi.rv<0)(a1:v.lo.rv≤v.hi.rv)(c0:0<u.lo.rv)(c1:u.lo.rv≤u.hi.rv):(prodV v u).lo.rv=v.lo.rv*u.hi.rv∧(prodV v u).hi.rv=v.hi.rv*u.lo.rv:=by
  have l:=prod_lo hv hu
  obtain ⟨⟨x,y,hx,hy,h⟩,x',y',hx',hy',h'⟩:=prod_at hv hu
  have mono:∀ x y,(x=v.lo.rv∨x=v.hi.rv)→(y=u.lo.rv∨y=u.hi.rv)→v.lo.rv*u.hi.rv≤x*y∧x*y≤v.hi.rv*u.lo.rv:=fun x y hx hy=>by
    have x0:v.lo.rv≤x∧x≤v.hi.rv:=by rcases hx with rfl | rfl<;>exact ⟨by grind,by grind⟩
    have y0:u.lo.rv≤y∧y≤u.hi.rv:=by rcases hy with rfl | rfl<;>exact ⟨by grind,by grind⟩
    have m1:=rmR x0.1 (show 0≤u.hi.rv by grind)
    have m2:=rmL y0.2 (show 0≤-x by grind)
    have m3:=rmR x0.2 (show 0≤u.lo.rv by grind)
    have m4:=rmL y0.1 (show 0≤-x by grind)
    exact ⟨by grind,by grind⟩
  have a:=(l _ _ (.inl rfl) (.inr rfl)).1
  have b:=(l _ _ (.inr rfl) (.inl rfl)).2
  have c:=(mono x y hx hy).1
  have d:=(mono x' y' hx' hy').2
  exact ⟨by grind,by grind⟩
theorem NarV.prod{δ η:Rat}{v u:Vx}(hv:v.P)(hu:u.P)(h:NarV δ v)(k:Nar η u.lo.rv u.hi.rv)(d0:0≤δ)(n0:0≤η):NarV (δ+η+δ*η) (prodV v u):=by
  rcases h with h | h
  · obtain ⟨e1,e2⟩:=prod_pos hv hu h.1 h.2.1 k.1 k.2.1
    left;rw [e1,e2];exact h.mul k d0 n0
  · obtain ⟨e1,e2⟩:=prod_neg hv hu (by have:=h.1;grind) (by have:=h.2.1;grind) k.1 k.2.1
    right
    rw [e1,e2]
    have:=h.mul k d0 n0
    rwa [show -(v.hi.rv*u.lo.rv) = -v.hi.rv*u.lo.rv by grind,show -(v.lo.rv*u.hi.rv) = -v.lo.rv*u.hi.rv by grind]
theorem enc_trim{s:Nat→Rat}{v:Vx}{p:Int}(hv:v.P)(hp:1≤p)(h:Enc s v.lo.rv v.hi.rv):Enc s (qV v p).lo.rv (qV v p).hi.rv :=
  h.wide (Zr hv hp).1.2.1 (Zr hv hp).2.2.1
theorem enc_times{s s':Nat→Rat}{v u:Vx}{p:Int}(hv:v.P)(hu:u.P)(hp:1≤p)(h:Enc s v.lo.rv v.hi.rv)(k:Enc s' u.lo.rv u.hi.rv):Enc (fun n=>s n*s' n) (qK v u p).lo.rv (qK v u p).hi.rv :=
  enc_trim (prodV_p v u) hp (h.mul k (prod_lo hv hu))
structure NM (δ L H a b:Rat):Prop where
  L0:0<L
  lo:L≤a
  hi:b≤H
  nar:Nar δ a b
theorem NM.trim{δ L H a b a' b':Rat}{p:Int}(h:NM δ L H a b)(d0:0≤δ)(hp:1≤p)(he:4*eps p≤1)(ha:Dn p a a')(hb:Up p b b'):NM (2*δ+4*eps p) (L/2) (2*H) a' b':=by
  have r1:=ha.rel hp h.nar.1
  have r2:=hb.rel hp (by have:=h.nar.1;have:=h.nar.2.1;grind)
  have e0:=Yf p
  have L0:=h.L0
  have lo:=h.lo
  have hi:=h.hi
  have n:=h.nar.2.1
  have m1:=rmR he (show 0≤a by grind)
  have m2:=rmR he (show 0≤b by grind)
  exact ⟨by grind,by grind,by grind,h.nar.trim d0 hp he ha hb⟩
theorem NM.mul{δ η L H L' H' a b c d:Rat}(h:NM δ L H a b)(k:NM η L' H' c d)(d0:0≤δ)(n0:0≤η):NM (δ+η+δ*η) (L*L') (H*H') (a*c) (b*d):=by
  have p1:=h.L0;have p2:=h.lo;have p3:=h.hi;have p4:=h.nar.2.1
  have q1:=k.L0;have q2:=k.lo;have q3:=k.hi;have q4:=k.nar.2.1
  have m1:=rmR p2 (rlL q1)
  have m2:=rmL q2 (show 0≤a by grind)
  have m3:=rmR p3 (show 0≤d by grind)
  have m4:=rmL q3 (show 0≤H by grind)
  exact ⟨Rat.mul_pos p1 q1,by grind,by grind,h.nar.mul k.nar d0 n0⟩
theorem NM.mono{δ η L H L' H' a b:Rat}(h:NM δ L H a b)(k:δ≤η)(l0:0<L')(l1:L'≤L)(h1:H≤H'):NM η L' H' a b :=
  ⟨l0,by have:=h.lo;grind,by have:=h.hi;grind,h.nar.mono k⟩
def VM(δ L H:Rat)(v:Vx):Prop:=NM δ L H v.lo.rv v.hi.rv∨NM δ L H (-v.hi.rv) (-v.lo.rv)
theorem VM.mono{δ η L H L' H':Rat}{v:Vx}(h:VM δ L H v)(k:δ≤η)(l0:0<L')(l1:L'≤L)(h1:H≤H'):VM η L' H' v :=
  h.elim (fun h=>.inl (h.mono k l0 l1 h1)) fun h=>.inr (h.mono k l0 l1 h1)
theorem VM.trim{δ L H:Rat}{v:Vx}{p:Int}(hv:v.P)(h:VM δ L H v)(d0:0≤δ)(hp:1≤p)(he:4*eps p≤1):VM (2*δ+4*eps p) (L/2) (2*H) (qV v p):=by
  obtain ⟨b1,b2⟩:=Zr hv hp
  rcases h with h | h
  · exact .inl (h.trim d0 hp he b1 b2)
  · exact .inr (h.trim d0 hp he b2.neg b1.neg)
theorem VM.prod{δ η L H L' H':Rat}{v u:Vx}(hv:v.P)(hu:u.P)(h:VM δ L H v)(k:NM η L' H' u.lo.rv u.hi.rv)(d0:0≤δ)(n0:0≤η):VM (δ+η+δ*η) (L*L') (H*H') (prodV v u):=by
  rcases h with h | h
  · obtain ⟨e1,e2⟩:=prod_pos hv hu h.nar.1 h.nar.2.1 k.nar.1 k.nar.2.1
    left;rw [e1,e2];exact h.mul k d0 n0
  · obtain ⟨e1,e2⟩:=prod_neg hv hu (by have:=h.nar.1;grind) (by have:=h.nar.2.1;grind) k.nar.1 k.nar.2.1
    right
    rw [e1,e2]
    have:=h.mul k d0 n0
    rwa [show -(v.hi.rv*u.lo.rv) = -v.hi.rv*u.lo.rv by grind,show -(v.lo.rv*u.hi.rv) = -v.lo.rv*u.hi.rv by grind]
theorem eps4{p:Int}(hp:3≤p):4*eps p≤1:=by
  have:eps p≤p2 (-2):=Qz (by omega)
  have e:4*p2 (-2)=1:=by have:=p2_neg 2;have e2:p2 2=4:=by rw [zU       (by omega)];rfl
                         rw [e2] at this;grind
  grind
theorem AltIv.nm{f:Nat}{t:Dx}{w:Int}{v:Vx}(h:AltIv f t w v):NM (p2 (24-w)) (p2 (-2)) (p2 2) v.lo.rv v.hi.rv:=by
  have e2:p2 2=4:=by rw [zU (by omega)];rfl
  have e:4*p2 (-2)=1:=by have:=p2_neg 2;rw [e2] at this;grind
  have lo:=h.lo
  have hi:=h.hi
  have wd:=h.wide
  have se:=h.enc.self
  have q:=qL (22-w)
  have e24:p2 (24-w)=4*p2 (22-w):=by rw [←e2,←Qb];congr 1;omega
  have m:=rmL lo (rlL q)
  exact ⟨qL _,by grind,by grind,by grind,se,by rw [e24];grind⟩
theorem point_vm{t:Dx}(ht:0≤t.m)(h0:t.rv≠0){A:Int}(hA:p2 A≤(t.m:Rat)*p2 t.e)(h1:Qa t):VM 0 (p2 A) 1 (qD t):=by
  have e1:(qD t).lo.rv=t.rv:=Qs ht
  have e2:(qD t).hi.rv=t.rv:=Qs ht
  obtain ⟨a1,a2⟩:=QX ht
  unfold VM
  rw [e1,e2]
  rcases (show 0≤t.rv∨t.rv≤0 by grind) with c | c
  · left
    have:=a1 c
    exact ⟨qL _,by grind,h1.1,Nar.self (by grind)⟩
  · right
    have:=a2 c
    exact ⟨qL _,by grind,by have:=h1.2;grind,Nar.self (by grind)⟩
theorem enc_point{t:Dx}(ht:0≤t.m):Enc (fun _=>t.rv) (qD t).lo.rv (qD t).hi.rv:=by
  have e1:(qD t).lo.rv=t.rv:=Qs ht
  have e2:(qD t).hi.rv=t.rv:=Qs ht
  rw [e1,e2];exact Enc.const _
theorem sin_seq(t:Rat):Yt t=fun n=>t*altS 2 (t*t) n:=by funext n;exact sinS_alt t n
theorem cos_seq(t:Rat):YO t=fun n=>altS 1 (t*t) n:=by funext n;exact cosS_alt t n
theorem ZJ(a:Int):2*p2 a=p2 (a+1):=by rw [Int.add_comm,Qb,p2_one]
theorem p2_dbl(a:Int):p2 a+p2 a=p2 (a+1):=by rw [←ZJ];grind
theorem sine_zero{t:Dx}(ht:0≤t.m):t.zeroB=true↔t.rv=0:=Z9 ht
theorem times_vm{δ η L H L' H':Rat}{v u:Vx}{p:Int}(hv:v.P)(hu:u.P)(h:VM δ L H v)(k:NM η L' H' u.lo.rv u.hi.rv)(d0:0≤δ)(n0:0≤η)(hp:3≤p):VM (2*(δ+η+δ*η)+4*eps p) (L*L' / 2) (2*(H*H')) (qK v u p) :=
  (h.prod hv hu k d0 n0).trim (prodV_p v u) (by have:=rmN d0 n0;grind) (by omega) (eps4 hp)
theorem sineV_iv{t:Dx}{p:Int}(ht:0≤t.m)(h1:Qa t)(h0:t.rv≠0){A:Int}(hA:p2 A≤(t.m:Rat)*p2 t.e)(p0:0≤p)(p1:p≤60000) :
    (Zf t p).P∧Enc (Yt t.rv) (Zf t p).lo.rv (Zf t p).hi.rv∧VM (p2 (-36-p)) (p2 (A-4)) (p2 4) (Zf t p):=by
  have hz:¬ t.zeroB=true:=fun h=>h0 ((sine_zero ht).1 h)
  have I:=altV_iv (sqS_alt ht h1.1 h1.2 (f:=2) (by omega) (by omega) (w:=p+64) (by omega) (by omega))
  unfold Zf
  rw [if_neg hz]
  have E:=enc_times (p:=p+64) (Q9 (qD t) (p+64)) I.p (by omega) (enc_trim (zJ t) (by omega) (enc_point ht)) I.enc
  rw [←sin_seq] at E
  refine ⟨Q9 _ _,E,?_⟩
  have V:=times_vm (p:=p+64) (Q9 (qD t) (p+64)) I.p ((point_vm ht h0 hA h1).trim (zJ t) Rat.le_refl (p:=p+64) (by omega) (eps4 (by omega))) I.nm (by have:=Yf (p+64);grind) (rlL (qL _)) (by omega)
  refine V.mono ?_ (qL _) ?_ ?_
  · have e1:eps (p+64)=p2 (-63-p):=by unfold eps;congr 1;omega
    have e2:24-(p+64) = -40-p:=by omega
    rw [e1,e2]
    have q:4*p2 (-63-p)=p2 (-61-p):=by rw [show (4:Rat)*p2 (-63-p)=2*(2*p2 (-63-p)) by grind,ZJ,ZJ];congr 1;omega
    rw [Rat.mul_zero,Rat.zero_add,q]
    have m1:p2 (-61-p)≤p2 (-40-p):=Qz (by omega)
    have m2:p2 (-61-p)≤1:=by have:=Qz (show -61-p≤0 by omega);rwa [ZX] at this
    have m3:=rmR m2 (rlL (qL (-40-p)))
    have s1:=p2_dbl (-40-p)
    have s2:=p2_dbl (-39-p)
    have s3:=p2_dbl (-38-p)
    have s4:=p2_dbl (-37-p)
    rw [show -40-p+1 = -39-p by omega] at s1
    rw [show -39-p+1 = -38-p by omega] at s2
    rw [show -38-p+1 = -37-p by omega] at s3
    rw [show -37-p+1 = -36-p by omega] at s4
    have:=qL (-40-p)
    grind
  · have e:p2 (A-4)*16=p2 A:=by
      have h:=p2_sub A 4
      have e4:p2 4=16:=by rw [zU (by omega)];rfl
      rwa [e4] at h
    have e2:p2 A*p2 (-2)=p2 (A-2):=by rw [←Qb];rfl
    have e3:p2 (A-2)=4*p2 (A-4):=by
      rw [show (4:Rat)*p2 (A-4)=2*(2*p2 (A-4)) by grind,ZJ,ZJ];congr 1;omega
    have:p2 A/2*p2 (-2)/2=p2 (A-4):=by grind
    rw [this];exact Rat.le_refl
  · have e2:p2 2=4:=by rw [zU (by omega)];rfl
    have e4:p2 4=16:=by rw [zU (by omega)];rfl
    rw [e2,e4];grind
theorem enc_cos0:Enc (YO 0) 1 1:=fun e he=>⟨1,fun n hn=>by
  obtain ⟨m,rfl⟩:∃ m,n=m+1:=⟨n-1,by omega⟩
  rw [cosS_zero];exact ⟨by grind,by grind⟩⟩
theorem enc_sin0:Enc (Yt 0) 0 0:=fun e he=>⟨0,fun n _=>by
  have:Yt 0 n=0:=by rw [sinS_alt,Rat.zero_mul]
  rw [this];exact ⟨by grind,by grind⟩⟩
theorem XE{t:Dx}{p:Int}(ht:0≤t.m)(h1:Qa t)(p0:0≤p)(p1:p≤60000) :
    (qI t p).P∧Enc (YO t.rv) (qI t p).lo.rv (qI t p).hi.rv∧NM (p2 (-40-p)) (p2 (-2)) (p2 2) (qI t p).lo.rv (qI t p).hi.rv:=by
  unfold qI
  split
  · rename_i h
    have h0:=(sine_zero ht).1 h
    have e1:(qD (mkS 1 0)).lo.rv=1:=(Qs mkS_p).trans (rv_int 1)
    have e2:(qD (mkS 1 0)).hi.rv=1:=(Qs mkS_p).trans (rv_int 1)
    rw [e1,e2,h0]
    have q2:p2 2=4:=by rw [zU (by omega)];rfl
    have q:4*p2 (-2)=1:=by have:=p2_neg 2;rw [q2] at this;grind
    refine ⟨⟨zZ,zZ⟩,enc_cos0,qL _,by grind,by grind,(Nar.self (by grind)).mono (rlL (qL _))⟩
  · have I:=altV_iv (sqS_alt ht h1.1 h1.2 (f:=1) (by omega) (by omega) (w:=p+64) (by omega) (by omega))
    refine ⟨I.p,by rw [cos_seq];exact I.enc,?_⟩
    have:=I.nm
    rwa [show 24-(p+64) = -40-p by omega] at this
theorem XF{t:Dx}{p:Int}(ht:0≤t.m)(h1:Qa t)(p0:0≤p)(p1:p≤60000) :
    AltIv 1 t (p+48) (qP t p)∧Enc (YO t.rv) (qP t p).lo.rv (qP t p).hi.rv∧NM (p2 (-24-p)) (p2 (-2)) (p2 2) (qP t p).lo.rv (qP t p).hi.rv:=by
  have I:=altR_iv (sqR_alt ht h1.1 h1.2 (f:=1) (by omega) (by omega) (w:=p+48) (by omega) (by omega))
  refine ⟨I,by rw [cos_seq];exact I.enc,?_⟩
  have:=I.nm
  rwa [show 24-(p+48) = -24-p by omega] at this
theorem sineH_iv{t:Dx}{p:Int}(ht:0≤t.m)(h1:Qa t)(h0:t.rv≠0){A:Int}(hA:p2 A≤(t.m:Rat)*p2 t.e)(p0:0≤p)(p1:p≤60000) :
    (QG t p).P∧Enc (Yt t.rv) (QG t p).lo.rv (QG t p).hi.rv∧VM (p2 (-21-p)) (p2 (A-3)) (p2 4) (QG t p):=by
  have hz:¬ t.zeroB=true:=fun h=>h0 ((sine_zero ht).1 h)
  have I:=altR_iv (sqR_alt ht h1.1 h1.2 (f:=2) (by omega) (by omega) (w:=p+48) (by omega) (by omega))
  unfold QG
  rw [if_neg hz]
  have E:=enc_times (p:=p+48) (zJ t) I.p (by omega) (enc_point ht) I.enc
  rw [←sin_seq] at E
  refine ⟨Q9 _ _,E,?_⟩
  have V:=times_vm (p:=p+48) (zJ t) I.p (point_vm ht h0 hA h1) I.nm Rat.le_refl (rlL (qL _)) (by omega)
  refine V.mono ?_ (qL _) ?_ ?_
  · have e1:eps (p+48)=p2 (-47-p):=by unfold eps;congr 1;omega
    have e2:24-(p+48) = -24-p:=by omega
    rw [e1,e2,Rat.zero_mul,Rat.add_zero,Rat.zero_add,ZJ]
    have q:4*p2 (-47-p)=p2 (-45-p):=by rw [show (4:Rat)*p2 (-47-p)=2*(2*p2 (-47-p)) by grind,ZJ,ZJ];congr 1;omega
    rw [q]
    have m1:p2 (-45-p)≤p2 (-22-p):=Qz (by omega)
    have m2:p2 (-24-p+1)≤p2 (-22-p):=Qz (by omega)
    have s:=p2_dbl (-22-p)
    rw [show -22-p+1 = -21-p by omega] at s
    grind
  · have e2:p2 A*p2 (-2)=p2 (A-2):=by rw [←Qb];rfl
    have e3:p2 (A-2)=2*p2 (A-3):=by rw [ZJ];congr 1;omega
    have:p2 A*p2 (-2)/2=p2 (A-3):=by grind
    rw [this];exact Rat.le_refl
  · have e2:p2 2=4:=by rw [zU (by omega)];rfl
    have e4:p2 4=16:=by rw [zU (by omega)];rfl
    rw [e2,e4];grind
theorem vm_amt{v:Vx}{δ L H:Rat}(hv:v.P)(h:VM δ L H v):(L≤(v.lo.m:Rat)*p2 v.lo.e∧(v.lo.m:Rat)*p2 v.lo.e≤H)∧L≤(v.hi.m:Rat)*p2 v.hi.e∧(v.hi.m:Rat)*p2 v.hi.e≤H:=by
  obtain ⟨a1,a2⟩:=QX hv.1
  obtain ⟨b1,b2⟩:=QX hv.2
  rcases h with h | h
  · have n:=h.nar;have l:=h.lo;have k:=h.hi;have z:=h.L0
    have n1:=n.1;have n2:=n.2.1
    rw [←a1 (by grind),←b1 (by grind)]
    exact ⟨⟨by grind,by grind⟩,by grind,by grind⟩
  · have n:=h.nar;have l:=h.lo;have k:=h.hi;have z:=h.L0
    have n1:=n.1;have n2:=n.2.1
    rw [←a2 (by grind),←b2 (by grind)]
    exact ⟨⟨by grind,by grind⟩,by grind,by grind⟩
theorem vm_le{v:Vx}{δ L H:Rat}(h:VM δ L H v):v.lo.rv≤v.hi.rv:=by
  rcases h with h | h
  · exact h.nar.2.1
  · have:=h.nar.2.1;grind
theorem cut_right{w:Vx}{δ:Rat}{A B p:Int}(hw:w.P)(h:VM δ (p2 A) (p2 B) (qV w p))(p0:1≤p)(p1:p≤32768)(hA:-32768≤A-p)(hB:B≤32768):qT (qV w p)=true:=by
  obtain ⟨⟨l1,l2⟩,h1,h2⟩:=vm_amt (Q9 w p) h
  obtain ⟨b1,b2⟩:=Zr hw p0
  exact right_of (fits_rp (YI hw.1) b1.1 p1 (fun _=>l1) l2 hA hB) (fits_rp (YI hw.2) b2.1 p1 (fun _=>h1) h2 hA hB) (vm_le h)
theorem narrow_of{v:Vx}{δ L H:Rat}{p:Int}(hv:v.P)(hr:qT v=true)(p0:0≤p)(h:VM δ L H v)(hd:δ≤p2 (-p)):Qj v p=true:=by
  have f:=QY hr
  rw [Qj,hr,show leI 0 p=true from zS.2 p0]
  show Q7 v p=true
  have s1:=sgn_rv hv.1
  have s2:=sgn_rv hv.2
  have q:=qL p
  have i:=p2_neg p
  have wd:(Qm v.hi v.lo).zeroB=false→narrowX (Qm v.hi v.lo) (if v.lo.sgn<0 then absD v.hi else absD v.lo) p=decide ((Qm v.hi v.lo).rv*p2 p≤(if v.lo.sgn<0 then absD v.hi else absD v.lo).rv):=fun hz=>by
    refine narrowX_eq Xk (by split<;>exact absD_p) (wide_ge hv hr hz) ?_
    split
    · rw [rv_abs hv.2];exact fits_lt f.2.1
    · rw [rv_abs hv.1];exact fits_lt f.1
  have wr:(Qm v.hi v.lo).rv=v.hi.rv-v.lo.rv:=rv_less hv.2 hv.1
  unfold Q7
  rcases h with h | h
  · have n:=h.nar.mono hd
    obtain ⟨n1,n2,n3⟩:=n
    have e1:v.lo.sgn=1:=by rcases s1 with ⟨a,b⟩|⟨a,b⟩|⟨a,b⟩<;>first | exact a | (exfalso;grind)
    have e2:v.hi.sgn=1:=by rcases s2 with ⟨a,b⟩|⟨a,b⟩|⟨a,b⟩<;>first | exact a | (exfalso;grind)
    rw [e1,e2,if_neg (by omega),if_neg (by omega)]
    split
    · rfl
    · rename_i hz
      have hz:(Qm v.hi v.lo).zeroB=false:=by simpa using hz
      rw [e1] at wd
      rw [wd hz,decide_eq_true_eq,wr,if_neg (by omega),rv_abs hv.1,←(QX hv.1).1 (by grind)]
      have m:=rmR (show v.hi.rv-v.lo.rv≤p2 (-p)*v.lo.rv by grind) (rlL q)
      have e:p2 (-p)*v.lo.rv*p2 p=v.lo.rv:=by rw [show p2 (-p)*v.lo.rv*p2 p=v.lo.rv*(p2 (-p)*p2 p) by grind,i,Rat.mul_one]
      grind
  · have n:=h.nar.mono hd
    obtain ⟨n1,n2,n3⟩:=n
    have e1:v.lo.sgn = -1:=by rcases s1 with ⟨a,b⟩|⟨a,b⟩|⟨a,b⟩<;>first | exact a | (exfalso;grind)
    have e2:v.hi.sgn = -1:=by rcases s2 with ⟨a,b⟩|⟨a,b⟩|⟨a,b⟩<;>first | exact a | (exfalso;grind)
    rw [e1,e2,if_neg (by omega),if_neg (by omega)]
    split
    · rfl
    · rename_i hz
      have hz:(Qm v.hi v.lo).zeroB=false:=by simpa using hz
      rw [e1] at wd
      rw [wd hz,decide_eq_true_eq,wr,if_pos (by omega),rv_abs hv.2,←(QX hv.2).2 (by grind)]
      have m:=rmR (show v.hi.rv-v.lo.rv≤p2 (-p)*(-v.hi.rv) by grind) (rlL q)
      have e:p2 (-p)*(-v.hi.rv)*p2 p = -v.hi.rv:=by rw [show p2 (-p)*(-v.hi.rv)*p2 p = -v.hi.rv*(p2 (-p)*p2 p) by grind,i,Rat.mul_one]
      grind
theorem OneF.xs{d:Dx}(h:OneF d):d.xs=ws d.m:=by obtain ⟨n,m,e,h,rfl⟩:=h;exact mkD_ws h
theorem p2_int_odd{a b:Int}{e f:Int}(h:(a:Rat)*p2 e=(b:Rat)*p2 f)(hef:e≤f):a=b*2^(f-e).toNat:=by
  have k:p2 f=p2 (f-e)*p2 e:=by rw [←Qb];congr 1;omega
  rw [k,←Rat.mul_assoc,zU (show 0≤f-e by omega)] at h
  have h2:((a:Int):Rat)=((b*2^(f-e).toNat:Int):Rat):=by
    rw [rcM]
    refine Rat.le_antisymm ((Qo e).1 ?_) ((Qo e).1 ?_)<;>grind
  exact Rat.intCast_inj.1 h2
theorem sm_odd{d:Dx}(h:d.m % 2=1):d.sm % 2=1:=by unfold Dx.sm;split<;>omega
theorem OneF.ext{a b:Dx}(ha:OneF a)(hb:OneF b)(h:a.rv=b.rv):a=b:=by
  have pa:=ha.p
  have pb:=hb.p
  by_cases za:a.m=0
  · have e:b.rv=0:=by rw [←h];exact Ye za
    have zb:b.m=0:=by
      have:=(Z9 pb).2 e
      simpa [Dx.zeroB] using this
    rw [ha.zero za,hb.zero zb]
  · have zb:b.m≠0:=fun zb=>za (by
      have e:a.rv=0:=by rw [h];exact Ye zb
      have:=(Z9 pa).2 e
      simpa [Dx.zeroB] using this)
    have oa:=sm_odd (ha.odd za)
    have ob:=sm_odd (hb.odd zb)
    have he:a.e=b.e∧a.sm=b.sm:=by
      rcases Int.le_total a.e b.e with k | k
      · have q:=p2_int_odd (h:(a.sm:Rat)*p2 a.e=(b.sm:Rat)*p2 b.e) k
        generalize ht:(b.e-a.e).toNat=t at q
        cases t with
        | zero=>exact ⟨by omega,by simpa using q⟩
        | succ t=>rw [Int.pow_succ,←Int.mul_assoc] at q;omega
      · have q:=p2_int_odd (h.symm:(b.sm:Rat)*p2 b.e=(a.sm:Rat)*p2 a.e) k
        generalize ht:(a.e-b.e).toNat=t at q
        cases t with
        | zero=>exact ⟨by omega,by simpa using q.symm⟩
        | succ t=>rw [Int.pow_succ,←Int.mul_assoc] at q;omega
    have hs:=he.2
    have hm:a.neg=b.neg∧a.m=b.m:=by
      unfold Dx.sm at hs
      cases h1:a.neg<;>cases h2:b.neg<;>simp only [h1,h2,if_true,if_false,Bool.false_eq_true] at hs ⊢<;>first | (exfalso;omega) | exact ⟨trivial,by omega⟩
    have hx:a.xs=b.xs:=by rw [ha.xs,hb.xs,hm.2]
    cases a;cases b
    simp only [Dx.mk.injEq]
    exact ⟨hm.1,hx,he.1⟩
theorem mkD_f{neg:Bool}{m e:Int}(h:0≤m):OneF (mkD neg m e):=⟨_,_,_,h,rfl⟩
theorem mkS_f{s e:Int}:OneF (mkS s e):=mkD_f (by omega)
theorem negD_f{d:Dx}(h:0≤d.m):OneF (ZO d):=mkD_f h
theorem plusX_f{a b:Dx}(ha:OneF a)(hb:OneF b):OneF (plusX a b):=by
  unfold plusX;split
  · exact hb
  · split
    · exact ha
    · exact mkS_f
theorem plusD_f{a b:Dx}(ha:0≤a.m)(hb:0≤b.m):OneF (Qx a b):=plusX_f (oneD_f ha) (oneD_f hb)
theorem lessD_f{a b:Dx}(ha:0≤a.m):OneF (Qm a b):=plusD_f ha YQ
theorem floorD_f{d:Dx}(h:0≤d.m):OneF (qX d):=by
  unfold qX;split
  · exact oneD_f h
  · have:=Int.ediv_nonneg (zZ (d:=d)) (show (0:Int)≤2^(-(qC d).e).toNat by have:=two_pow_pos (-(qC d).e).toNat;omega)
    exact mkD_f (by split<;>omega)
def halfD:Dx:=⟨false,[1],-1⟩
theorem halfD_m:halfD.m=1:=by decide
theorem halfD_rv:halfD.rv=1/2:=by
  have:halfD.sm=1:=by decide
  unfold Dx.rv;rw [this];decide +kernel
theorem halfD_f:OneF halfD:=by
  refine ⟨false,1,-1,by decide,?_⟩
  unfold mkD
  rw [if_neg (by decide),tz_odd2 (by decide) (by decide)]
  show halfD=⟨false,ws (1/2^0),-1⟩
  rw [show (1:Int)/2^0=1 by decide,ws_one];rfl
def Qy(d:Dx):Dx :=
  if (qX (Qx d halfD)).e=0∧(qX (Qx d halfD)).m≠0∧QJ (Qm (qX (Qx d halfD)) d) halfD=0 then Qm (qX (Qx d halfD)) (mkS 1 0) else qX (Qx d halfD)
def NearI(n:Int)(q:Rat):Prop:=(n:Rat)-1/2≤q∧q≤(n:Rat)+1/2∧((q=(n:Rat)-1/2∨q=(n:Rat)+1/2)→n % 2=0)
theorem NearI.mono{m n:Int}{x y:Rat}(h:NearI m x)(k:NearI n y)(hxy:x≤y):m≤n:=by
  refine Int.not_lt.1 fun hlt=>?_
  obtain ⟨h1,h2,h3⟩:=h
  obtain ⟨k1,k2,k3⟩:=k
  have c:((n+1:Int):Rat)≤(m:Rat):=zG.2 (by omega)
  rw [rcA] at c
  have e1:((1:Int):Rat)=1:=rfl
  rw [e1] at c
  have ex:x=(m:Rat)-1/2:=by grind
  have ey:y=(n:Rat)+1/2:=by grind
  have em:=h3 (.inl ex)
  have en:=k3 (.inr ey)
  have:(m:Rat)=((n+1:Int):Rat):=by rw [rcA,e1];grind
  have:=Rat.intCast_inj.1 this
  omega
theorem NearI.uniq{m n:Int}{x:Rat}(h:NearI m x)(k:NearI n x):m=n:=by
  have a:=h.mono k (by grind)
  have b:=k.mono h (by grind)
  omega
theorem nearD_rv{d:Dx}(hd:0≤d.m):∃ n:Int,(Qy d).rv=(n:Rat)∧NearI n d.rv:=by
  obtain ⟨n,hn,f1,f2⟩:=floorD_rv (d:=Qx d halfD) YF
  rw [rv_plus hd (by decide),halfD_rv] at f1 f2
  have ff:=floorD_f (d:=Qx d halfD) YF
  have fe:=floorD_e (d:=Qx d halfD)
  have fp:=Y2 (d:=Qx d halfD)
  unfold Qy
  generalize qX (Qx d halfD)=N at *
  have hsm:n=N.sm*2^N.e.toNat:=by
    refine Rat.intCast_inj.1 ?_
    rw [←hn,rcM,←zU fe];rfl
  split
  · rename_i hc
    obtain ⟨c1,c2,c3⟩:=hc
    have c3:=cmpD_eq0.1 c3
    rw [rv_less fp hd,hn,halfD_rv] at c3
    have ho:n % 2=1:=by
      rw [hsm,c1]
      have:=sm_odd (ff.odd c2)
      simpa using this
    have e1:((1:Int):Rat)=1:=rfl
    have e2:(1:Rat)/2+1/2=1:=by grind
    have c4:d.rv=(n:Rat)-1/2:=by grind
    refine ⟨n-1,by rw [rv_less fp mkS_p,hn,rv_mkS,ZX,Rat.intCast_sub];grind,?_,?_,fun _=>by omega⟩
    · rw [Rat.intCast_sub,e1,c4];grind
    · rw [Rat.intCast_sub,e1,c4];grind
  · rename_i hc
    refine ⟨n,hn,by grind,by grind,fun ht=>?_⟩
    have ht:d.rv=(n:Rat)-1/2:=by grind
    by_cases he:N.e=0
    · by_cases hm:N.m=0
      · have:n=0:=by
          refine Rat.intCast_inj.1 ?_
          rw [←hn,Ye hm];rfl
        omega
      · exfalso
        refine hc ⟨he,hm,cmpD_eq0.2 ?_⟩
        rw [rv_less fp hd,hn,halfD_rv];grind
    · rw [hsm]
      obtain ⟨k,hk⟩:∃ k,N.e.toNat=k+1:=⟨N.e.toNat-1,by omega⟩
      rw [hk,Int.pow_succ,←Int.mul_assoc];omega
theorem nearD_p{d:Dx}:0≤(Qy d).m:=by unfold Qy;split;exact Xk;exact Y2
theorem nearD_f{d:Dx}:OneF (Qy d):=by unfold Qy;split;exact lessD_f Y2;exact floorD_f YF
theorem sub_e0{a b:Dx}(ha:0≤a.e)(hb:0≤b.e):0≤(Qm a b).e:=by
  have h1:0≤(qC a).e:=mkD_e0 ha
  have h2:0≤(qC (ZO b)).e:=mkD_e0 (mkD_e0 hb)
  unfold Qm Qx plusX
  split
  · exact h2
  · split
    · exact h1
    · exact mkD_e0 (by omega)
theorem Yg{d:Dx}:0≤(Qy d).e:=by
  unfold Qy;split
  · exact sub_e0 floorD_e (mkD_e0 (Int.le_refl _))
  · exact floorD_e
def YJ(d:Dx):Int:=d.sm*2^d.e.toNat
theorem YK{d:Dx}(h:0≤d.e):(YJ d:Rat)=d.rv:=by unfold YJ Dx.rv;rw [rcM,zU h]
def by4I(d:Dx):Int:=YJ d % 4
theorem nearD_whole{d:Dx}(hd:0≤d.m):NearI (YJ (Qy d)) d.rv:=by
  obtain ⟨n,h1,h2⟩:=nearD_rv hd
  have:YJ (Qy d)=n:=Rat.intCast_inj.1 ((YK Yg).trans h1)
  rwa [this]
theorem nearD_eq{a b:Dx}:(Qy a).rv=(Qy b).rv↔YJ (Qy a)=YJ (Qy b):=by
  rw [←YK Yg,←YK Yg,Rat.intCast_inj]
def rPower:qU:=qF [.i .i64] fun (n:Int)=>(none,dT ⟨false,[1],n⟩)
theorem rPower_vc(n:Int)(Q:Tv→Prop):qH ⟨tys,[]⟩ (fun _=>none) 0 Tryz.f176 [.one (.int .i64 n)] Q=(Words [1]∧Q (Tv.sv (Sv.agg [At.bool false,At.words true [1],At.int .i64 n]))):=by kernel_rfl
theorem words_1:Words [1]:=fun x hx=>by
  rcases List.mem_singleton.1 hx with rfl
  exact ⟨by omega,by omega⟩
theorem rPower_ok:SpecOk Tryz.prog 176 rPower :=
  zA (qO (S:=[]) Qh trivial) mixed Tryz.func176 rfl (by decide) (by decide) fun (n:Int) _ _=>⟨fun _=>none,0,by
    show qH _ _ _ _ _ (fun t=>t=dT ⟨false,[1],n⟩∨fgT t=dT ⟨false,[1],n⟩)
    exact (rPower_vc n _).mpr ⟨words_1,.inl rfl⟩⟩
def sNear:List (FuncId×qU):=[(176,rPower),(174,rFloor),(147,rInt)] ++ sRaw4
theorem sNear_ok:SpecsOk Tryz.prog sNear:=⟨rPower_ok,rFloor_ok,rInt_ok,sRaw4_ok⟩
theorem halfD_sm:halfD.Sm 8:=⟨by rw [halfD_m];exact QW (by decide),by decide,by decide⟩
def rNear:qU:=qF [.d] fun (d:Dx)=>(some (d.Sm 268435456),dT (Qy d))
theorem rNear_vc(d:Dx)(Q:Tv→Prop):qH ⟨tys,sNear⟩ (fun _=>none) 0 Tryz.f141 [.agg (dyL false d)] Q=((Dx.Sm 68719476736 d∧Dx.Sm 68719476736 (Dx.mk false [1] (-1)))∧Dx.Sm 68719476736 (Qx d (Dx.mk false [1] (-1)))∧true=true∧br (eqI (qX (Qx d (Dx.mk false [1] (-1)))).e 0) (br (!Dx.zeroB (qX (Qx d (Dx.mk false [1] (-1))))) ((Dx.Sm 34359738368 (qX (Qx d (Dx.mk false [1] (-1))))∧Dx.Sm 34359738368 d)∧(Dx.Sm 68719476736 (Qm (qX (Qx d (Dx.mk false [1] (-1)))) d)∧Dx.Sm 68719476736 (Dx.mk false [1] (-1)))∧br (eqI (QJ (Qm (qX (Qx d (Dx.mk false [1] (-1)))) d) (Dx.mk false [1] (-1))) 0) (inR 1∧(Dx.Sm 34359738368 (qX (Qx d (Dx.mk false [1] (-1))))∧Dx.Sm 34359738368 (mkS 1 0))∧true=true∧Q (Tv.sv (Sv.agg (dyL true (Qm (qX (Qx d (Dx.mk false [1] (-1)))) (mkS 1 0)))))) (Q (Tv.sv (Sv.agg (dyL true (qX (Qx d (Dx.mk false [1] (-1))))))))) (Q (Tv.sv (Sv.agg (dyL true (qX (Qx d (Dx.mk false [1] (-1))))))))) (Q (Tv.sv (Sv.agg (dyL true (qX (Qx d (Dx.mk false [1] (-1))))))))):=by kernel_rfl
theorem near_sm1{d:Dx}{N:Nat}(hd:0≤d.m)(h:d.Sm N)(hN:8≤N):(Qx d halfD).Sm (8*N+1)∧(qX (Qx d halfD)).Sm (16*N+4):=by
  have a:=Xw (N:=N) hd (by decide) h (halfD_sm.mono (by omega))
  exact ⟨a.mono (by omega),(floorD_sm YF a).mono (by omega)⟩
theorem mkS_sm5:(mkS 1 0).Sm 5:=(mkS_sm (N:=5) (M:=0) (QW (by decide)) (by omega) (by omega)).mono (by omega)
theorem nearD_sm{d:Dx}{N:Nat}(hd:0≤d.m)(h:d.Sm N)(hN:8≤N):(Qy d).Sm (256*N+64):=by
  obtain ⟨a,b⟩:=near_sm1 hd h hN
  unfold Qy;split
  · have c:=Yd (mkS_sm5) mkS_p
    exact (Xw (N:=16*N+4) Y2 YQ b (c.mono (by omega))).mono (by omega)
  · exact b.mono (by omega)
theorem rNear_ok:SpecOk Tryz.prog 141 rNear :=
  qG (qO Qh sNear_ok) mixed Tryz.func141 rfl (by decide) (by decide) fun (d:Dx) hd hp=>⟨fun _=>none,0,by
    have s:d.Sm 268435456:=hp
    have m0:=Dx.Wf.m0 hd
    obtain ⟨z1,z2⟩:=near_sm1 m0 s (by omega)
    show qH _ _ _ _ _ (fun t=>t=dT (Qy d))
    have e0:(⟨false,[1],-1⟩:Dx)=halfD:=rfl
    refine (rNear_vc d _).mpr ?_
    rw [e0]
    have p1:=Y2 (d:=Qx d halfD)
    have z3:(Qm (qX (Qx d halfD)) d).Sm 68719476736:=(Xw (N:=4294967300) p1 YQ z2 ((Yd s m0).mono (by omega))).mono (by omega)
    have z5:Dx.Sm 34359738368 (mkS 1 0):=mkS_sm5.mono (by omega)
    refine ⟨⟨s.mono (by omega),halfD_sm.mono (by omega)⟩,z1.mono (by omega),rfl,?_⟩
    unfold Qy
    refine qB (fun h1=>qB (fun h2=>⟨⟨z2.mono (by omega),s.mono (by omega)⟩,⟨z3,halfD_sm.mono (by omega)⟩,qB (fun h3=>⟨⟨by omega,by omega⟩,⟨z2.mono (by omega),z5⟩,rfl,?_⟩) fun h3=>?_⟩) fun h2=>?_) fun h1=>?_
    · rw [if_pos ⟨zX.1 h1,QV.1 (QE h2),zX.1 h3⟩]
    · rw [if_neg fun k=>qR.1 h3 k.2.2]
    · rw [if_neg fun k=>k.2.1 (QC.1 (q9 h2))]
    · rw [if_neg fun k=>qR.1 h1 k.1]⟩
theorem by4_low{m e:Int}(m0:0<m)(e0:0≤e)(e1:e≤1):ZG .and .i64 (IntKind.wrap .i64 (shlI .u64 (nth (ws m) 0) e)) 3=m*2^e.toNat % 4:=by
  rw [and_mask3,Xp m0,Zb,shlI,IntKind.wrap_i64,IntKind.wrap_u64]
  rcases (show e=0∨e=1 by omega) with rfl | rfl
  · rw [show min (0:Int).toNat IntKind.u64.bits=0 by decide,show (0:Int).toNat=0 by decide];omega
  · rw [show min (1:Int).toNat IntKind.u64.bits=1 by decide,show (1:Int).toNat=1 by decide];omega
theorem by4_great{d:Dx}(h:2≤d.e):by4I d=0:=by
  obtain ⟨k,hk⟩:∃ k,d.e.toNat=k+2:=⟨d.e.toNat-2,by omega⟩
  unfold by4I YJ
  rw [hk,Int.pow_succ,Int.pow_succ,←Int.mul_assoc,←Int.mul_assoc];omega
theorem by4_zero{d:Dx}(h:d.m=0):by4I d=0:=by
  have:d.sm=0:=by unfold Dx.sm;rw [h];simp
  unfold by4I YJ;rw [this];simp
theorem Xm{d:Dx}(h:OneF d):qC d=d:=(oneD_f h.p).ext h (Qs h.p)
def rBy4:qU:=qF [.d] fun (d:Dx)=>(some (OneF d∧0≤d.e∧d.e≤4611686018427387904),iT (by4I d))
theorem rBy4_vc(d:Dx)(Q:Tv→Prop):qH ⟨tys,sNear⟩ (fun _=>none) 0 Tryz.f144 [.agg (dyL false d)] Q=(((-4611686018427387904:Int)≤d.e∧d.e≤4611686018427387904)∧br (Dx.zeroB (qC d)) (Q (iT 0)) (br (ltI 1 (qC d).e) (Q (iT 0)) (((0:Int)≤0∧(0:Int)<(↑(List.length (qC d).xs):Int))∧(0:Int)≤(qC d).e∧true=true∧br (qC d).neg (inR ((0:Int)-ZG BinOp.and IntKind.i64 (IntKind.wrap IntKind.i64 (shlI IntKind.u64 (nth (qC d).xs 0) (qC d).e)) 3)∧Q (iT (ZG BinOp.and IntKind.i64 ((0:Int)-ZG BinOp.and IntKind.i64 (IntKind.wrap IntKind.i64 (shlI IntKind.u64 (nth (qC d).xs 0) (qC d).e)) 3) 3))) (Q (iT (ZG BinOp.and IntKind.i64 (IntKind.wrap IntKind.i64 (shlI IntKind.u64 (nth (qC d).xs 0) (qC d).e)) 3)))))):=by kernel_rfl
theorem rBy4_ok:SpecOk Tryz.prog 144 rBy4 :=
  qG (qO Qh sNear_ok) mixed Tryz.func144 rfl (by decide) (by decide) fun (d:Dx) _ hp=>⟨fun _=>none,0,by
    obtain ⟨f,e0,e1⟩:OneF d∧0≤d.e∧d.e≤4611686018427387904:=hp
    show qH _ _ _ _ _ (fun t=>t=iT (by4I d))
    refine (rBy4_vc d _).mpr ?_
    rw [Xm f]
    refine ⟨⟨by omega,e1⟩,qB (fun h=>?_) fun h=>qB (fun h1=>?_) fun h1=>?_⟩
    · rw [by4_zero (QC.1 h)]
    · rw [by4_great (by have:=qW.1 h1;omega)]
    · have h1:=qJ.1 h1
      have m0:=f.p
      have mp:0<d.m:=by have:=QV.1 h;omega
      rw [f.xs,by4_low mp e0 (by omega)]
      have hl:0<((ws d.m).length:Int):=by rw [Xp mp];simp
      refine ⟨⟨by omega,hl⟩,e0,rfl,qB (fun h2=>⟨⟨by omega,by omega⟩,?_⟩) fun h2=>?_⟩
      · rw [and_mask3]
        have:by4I d=(0-d.m*2^d.e.toNat % 4) % 4:=by
          unfold by4I YJ Dx.sm;rw [if_pos h2,Int.neg_mul];omega
        rw [this]
      · have:by4I d=d.m*2^d.e.toNat % 4:=by
          unfold by4I YJ Dx.sm;rw [if_neg (by rw [h2];simp)]
        rw [this]⟩
theorem div3_word{qs:List Int}(hq:Words qs){t:Int}{i q r:Nat}(hr:r<64)(hi:i=64*q+r)(e:val qs=2^(i+1)*t):nth qs q+2^r<18446744073709551616:=by
  have b:=bit_word hq hr hi
  have wq:=hq.nth q
  have p:=two_pow_pos i
  have pr:=two_pow_pos r
  rw [e,Int.pow_succ,Int.mul_assoc,Int.mul_ediv_cancel_left _ (by omega),Int.mul_emod_right] at b
  obtain ⟨s,hs⟩:∃ s,64=r+(s+1):=⟨63-r,by omega⟩
  have e64:(18446744073709551616:Int)=2^r*(2^s*2):=by
    have:(18446744073709551616:Int)=2^64:=by decide
    rw [this,hs,Int.pow_add,Int.pow_succ]
  have x1:nth qs q/2^r<2^s*2:=Int.ediv_lt_of_lt_mul pr (by rw [Int.mul_comm,←e64];exact wq.2)
  have dm:=Int.mul_ediv_add_emod (nth qs q) (2^r)
  have ml:=Int.emod_lt_of_pos (nth qs q) pr
  have x2:nth qs q/2^r+2≤2^s*2:=by omega
  have m:=imL x2 (show (0:Int)≤2^r by omega)
  rw [←e64,Int.mul_add] at m
  omega
structure Div3At (a b:Int) (qs:List Int) (rr:Int) (k M:Nat):Prop where
  len:qs.length=M
  wq:Words qs
  top:∃ t:Int,val qs=2^k*t
  eq:val qs*b+rr=a
  r0:0≤rr
  r1:rr<b*2^k
theorem div3At_start{a b:Int}{n M:Nat}(ha:0≤a)(hb:0<b)(hn:blen a=n+blen b):Div3At a b (List.replicate M 0) a (n+1) M:=by
  have p:=two_pow_pos (n+1)
  refine ⟨by simp,Words.zeros _,⟨0,by rw [Y5];simp⟩,by rw [Y5];simp,ha,?_⟩
  have h1:=Q5 a
  have h2:=YT hb
  rw [hn] at h1
  have bb:=Zm hb
  have m:=imR h2 (show (0:Int)≤2^(n+1) by omega)
  rw [←Int.pow_add,show blen b-1+(n+1)=n+blen b by omega] at m
  omega
theorem wpow_two(q:Nat):Qd q=2^(64*q):=by rw [wpow_eq]
theorem Div3At.yes{a b:Int}{qs:List Int}{rr:Int}{i q r M:Nat}(h:Div3At a b qs rr (i+1) M)(hr:r<64)(hi:i=64*q+r)(hq:q<M)(hle:b*2^i≤rr) :
    Div3At a b (qs.set q (nth qs q+2^r)) (rr-b*2^i) i M:=by
  obtain ⟨t,e⟩:=h.top
  have w:=div3_word h.wq hr hi e
  have wq:=h.wq.nth q
  have pr:=two_pow_pos r
  have l:=h.len
  have v:val (qs.set q (nth qs q+2^r))=val qs+2^i:=by
    rw [val_set _ _ _ (by omega),wpow_two,show nth qs q+2^r-nth qs q=2^r by omega,←Int.pow_add,←hi]
  have r1:=h.r1
  have eq:=h.eq
  refine ⟨by simpa using l,h.wq.set _ ⟨by have:=wq.1;omega,w⟩,⟨2*t+1,by rw [v,e,Int.pow_succ];grind⟩,by rw [v,←eq];grind,by omega,?_⟩
  rw [Int.pow_succ] at r1
  grind
theorem Div3At.no{a b:Int}{qs:List Int}{rr:Int}{i M:Nat}(h:Div3At a b qs rr (i+1) M)(hlt:rr<b*2^i):Div3At a b qs rr i M:=by
  obtain ⟨t,e⟩:=h.top
  exact ⟨h.len,h.wq,⟨2*t,by rw [e,Int.pow_succ,Int.mul_assoc]⟩,h.eq,h.r0,hlt⟩
theorem Div3At.fin{a b:Int}{qs:List Int}{rr:Int}{M:Nat}(h:Div3At a b qs rr 0 M)(hb:0<b):val qs=a/b∧rr=a % b:=by
  have r1:=h.r1
  have r0:=h.r0
  simp only [Int.pow_zero,Int.mul_one] at r1
  rw [←h.eq]
  refine ⟨?_,?_⟩
  · rw [Int.add_comm,Int.add_mul_ediv_right _ _ (by omega),Int.ediv_eq_zero_of_lt r0 r1,Int.zero_add]
  · rw [Int.add_comm,Int.add_mul_emod_self_right,Int.emod_eq_of_lt r0 r1]
theorem half_step(b:Int)(i:Nat):b*2^(i+1)/2^1=b*2^i:=by
  rw [Int.pow_succ,←Int.mul_assoc];simp
theorem nat_set_row{B g o:Nat}{w:World}{v:Value}{xs:List Int}(h:NatAt B w v xs)(hg:g<B)(x:Value):NatAt B (w.setCell ⟨g,o,none⟩ x) v xs :=
  h.isIn.ext (D':=fun g=>B≤g) (by simp) fun k _ hk=>⟨hk,heap_setCell_other _ _ _ _ (by show k≠g;have:B≤k:=hk;omega)⟩
set_option maxRecDepth 100000 in
set_option maxHeartbeats 3200000 in
theorem div3_calls{B B':Nat}{w:World}{v v':Value}{xs ys:List Int}(h:NatAt B w v xs)(h':NatAt B' w v' ys)(hb:0<val ys)(hl:blen (val xs)≤1073741824)(hl':ys.length≤8796093022208) :
    Calls Tryz.prog 127 #[v,v'] w (RNat2 w (ws (val xs/val ys)) (ws (val xs % val ys))):=by
  have hvx:Hid (0≤val xs):=qM h.words
  have HX0:=Lib.hid h;have HY0:=Lib.hid h'
  have hbs:=XC h'.words h'.len
  clear h h'
  go_enter Tryz.func127,Tryz.ntmps127
  go_wp2_with fail
  refine (len3_calls HX0.out).mono ?_
  rintro e w1 ⟨rfl,hb1⟩
  have HB1:=Lib.hid hb1
  clear hb1
  go_wp2_with fail
  refine (len3_calls (HY0.out.below HB1.out)).mono ?_
  rintro e w2 ⟨rfl,hb2⟩
  have HB2:Hid (Below w.heap.size w w2):=zI HB1.out hb2
  clear hb2 HB1
  have HX1:Hid (NatAt B w2 v xs):=HX0.out.below HB2.out
  have HY1:Hid (NatAt B' w2 v' ys):=HY0.out.below HB2.out
  by_cases hlt:blen (val xs)<blen (val ys)
  · have hq:Hid (val xs/val ys=0∧val xs % val ys=val xs):=divstep_pos (by
      have a:=Q5 (val xs)
      have b:=YT hb
      have c:(2:Int)^blen (val xs)≤2^(blen (val ys)-1):=Qf (by omega)
      omega) hvx.out
    go_wp2_with fail
    refine (QP HX1.out).mono ?_
    rintro e w3 ⟨v1,rfl,hn,hb3⟩
    have HN:=Lib.hid hn;have HB:=Lib.hid (zI HB2.out hb3)
    clear hn hb3
    go_wp2
    go_ret2
    rw [hq.out.1,hq.out.2]
    exact ⟨_,v1,rfl,by rw [Zk];exact NatAt.nil _ _,HN.out.mono HB2.out.size,HB.out⟩
  · obtain ⟨n,hn⟩:∃ n:Nat,blen (val xs)=n+blen (val ys):=⟨blen (val xs)-blen (val ys),by omega⟩
    have hnI:Hid ((blen (val xs):Int)-(blen (val ys):Int)=(n:Int)):=by show _=_;omega
    have hst:Hid (Div3At (val xs) (val ys) (List.replicate (n/64+1) 0) (val xs) (n+1) (n/64+1)):=div3At_start hvx.out hb hn
    have hn1:n≤1073741824:=by omega
    have htd:((n:Int)).tdiv 64=((n/64:Nat):Int):=by rw [Int.tdiv_eq_ediv_of_nonneg (by omega)];omega
    have hmk:=Z5 25 Tryz.underlying25 (n/64+1) (by omega)
    rw [show ((n/64+1:Nat):Int)=(n:Int)/64+1 from by omega] at hmk
    have hlt':¬ ((n:Int)<0):=by omega
    have ha:Hid (∀ rr:Int,0≤rr→rr≤val xs→(ws rr).length≤17592186044414):=fun rr r0 r1=>by have:=Yq r0;have:=ZK r1;omega
    have hd:Hid (∀ k:Nat,k≤n→(ws (val ys*2^k)).length≤17592186044414):=fun k hk=>by
      have:=Yq (Int.mul_nonneg (show 0≤val ys by omega) (show (0:Int)≤2^k by have:=two_pow_pos k;omega))
      rw [Ql hb] at this;omega
    have hab:Hid (0<val ys):=hb
    clear hlt htd
    go_wp2_with (rw [hnI.out])
    generalize hwm:w2.alloc (Obj.cells (cellsOf (List.replicate (n/64+1) 0)) 23)=wm
    have hrow0:Hid (RowAt wm w2.heap.size (List.replicate (n/64+1) 0)):=by show RowAt _ _ _;rw [←hwm];exact RowAt.made _ _
    have hb0:Hid (Below w2.heap.size w2 wm):=by show Below _ _ _;rw [←hwm];exact qZ _ _
    have hG0:Hid (w2.heap.size+1=wm.heap.size):=by show _=_;rw [←hwm];simp
    have HX2:Hid (NatAt B wm v xs):=HX1.out.below hb0.out
    have HY2:Hid (NatAt B' wm v' ys):=HY1.out.below hb0.out
    clear hwm hmk hb hvx HX0 HY0 HX1 HY1
    refine (QP HX2.out).mono ?_
    rintro e w3 ⟨v1,rfl,hn1',hb3⟩
    have HB3:=Lib.hid hb3;have HN1:=Lib.hid hn1'
    clear hb3 hn1'
    go_wp2_with fail
    refine (shl3_calls (n:Int) (HY2.out.below HB3.out) (by omega) (by omega) (by omega)).mono ?_
    rintro e w4 ⟨v2,rfl,hn2,hb4⟩
    have HB4:Hid (Below wm.heap.size wm w4):=zI HB3.out hb4
    have HN2:Hid (NatAt wm.heap.size w4 v1 (ws (val xs))):=HN1.out.below hb4
    have HN3:Hid (NatAt wm.heap.size w4 v2 (ws (val ys*2^n))):=by have:=hn2.mono HB3.out.size;rwa [Int.toNat_natCast] at this
    have hrow4:Hid (RowAt w4 w2.heap.size (List.replicate (n/64+1) 0)):=hrow0.out.below HB4.out
    have hB4:Hid (Below w2.heap.size w2 w4):=zI hb0.out HB4.out
    have hG4:Hid (w2.heap.size<w4.heap.size):=by show _<_;have:=hG0.out;have:=HB4.out.size;omega
    rw [←hG0.out] at HN2 HN3
    clear hb4 hn2 HB3 HN1 hb0 hrow0 HX2 HY2 hbs hl hl'
    have hGw:Hid (w.heap.size≤w2.heap.size):=HB2.out.size
    generalize w2.heap.size=G at *
    go_wp2
    go_loopw [8,9,10] (fun r d i wr=>∃ (k:Nat) (qs:List Int) (rr dd:Int),k≤n+1∧i = .int .i64 ((k:Int)-1)∧NatAt (G+1) wr r (ws rr)∧NatAt (G+1) wr d (ws dd)∧G<wr.heap.size∧RowAt wr G qs∧Below G w2 wr∧Hid (Div3At (val xs) (val ys) qs rr k (n/64+1)∧(0<k→dd=val ys*2^(k-1)))) (fun _ _ i _=>(intOf i+1).toNat)
    case atStart =>
      exact ⟨n+1,_,val xs,val ys*2^n,Nat.le_refl _,by go_num,HN2.out,HN3.out,hG4.out,hrow4.out,hB4.out,hst.out,fun _=>rfl⟩
    case round =>
      obtain ⟨k,qs,rr,dd,hk,rfl,hr,hdv,hG,hrow,hbel,hinv⟩:=hrel
      by_cases h0:0<k
      · obtain ⟨i,rfl⟩:∃ i,k=i+1:=⟨k-1,by omega⟩
        have e0:((i+1:Nat):Int)-1=(i:Int):=by omega
        rw [e0]
        clear e0
        have hD:=hinv.out.1
        have hdd:=hinv.out.2 (by omega)
        rw [Nat.add_sub_cancel] at hdd
        have hdd2:Hid (dd=val ys*2^i):=hdd
        have hd0:0≤dd:=by rw [hdd];exact Int.mul_nonneg (by have:=hab.out;omega) (by have:=two_pow_pos i;omega)
        have hvr:Hid (val (ws rr)=rr):=qN hD.r0
        have hvd:Hid (val (ws dd)=dd):=qN hd0
        have hra:rr≤val xs:=by
          have:=Int.mul_nonneg (qM hD.wq) (show 0≤val ys by have:=hab.out;omega)
          have:=hD.eq;omega
        have lr:Hid ((ws rr).length≤17592186044414):=ha.out rr hD.r0 hra
        have ld:Hid ((ws dd).length≤17592186044414):=by show _≤_;rw [hdd];exact hd.out i (by omega)
        have hR:=Lib.hid hr;have hDv:=Lib.hid hdv;have hRow:=Lib.hid hrow;have hBel:=Lib.hid hbel
        clear hr hdv hrow hbel
        go_wp2_with fail
        refine (cmp3_calls hR.out hDv.out).mono ?_
        rintro e w' ⟨rfl,rfl⟩
        rw [hvr.out,hvd.out]
        by_cases hle:dd≤rr
        · have hc:Hid (0≤Xj rr dd):=by show _≤_;unfold Xj;split<;>(try split)<;>omega
          have hst2:Hid (Div3At (val xs) (val ys) (qs.set (i/64) (nth qs (i/64)+2^(i % 64))) (rr-dd) i (n/64+1)):=by
            have:=hD.yes (q:=i/64) (r:=i % 64) (by omega) (by omega) (by omega) (by rw [←hdd];exact hle)
            rwa [←hdd] at this
          have hw:Hid (nth qs (i/64)+2^(i % 64)<18446744073709551616):=by
            obtain ⟨t,ht⟩:=hD.top
            exact div3_word hD.wq (by omega) (show i=64*(i/64)+i % 64 by omega) ht
          have hwq:=hD.wq.nth (i/64)
          have hlen:=hD.len
          have hc':=hc.out
          clear hD hdd hd0 hinv
          go_wp2_with fail
          refine (sub3_calls hR.out hDv.out lr.out ld.out (by rw [hvr.out,hvd.out];exact hle)).mono ?_
          rintro e w5 ⟨v5,rfl,hn5,hb5⟩
          rw [hvr.out,hvd.out] at hn5
          have HN5:=Lib.hid hn5;have HB5:=Lib.hid hb5
          clear hn5 hb5
          have htd:((i:Int)).tdiv 64=((i/64:Nat):Int):=by rw [Int.tdiv_eq_ediv_of_nonneg (by omega)];omega
          have htm:((i:Int)).tmod 64=((i % 64:Nat):Int):=by rw [Int.tmod_eq_emod_of_nonneg (by omega)];omega
          have hrow5:=hRow.out.below HB5.out
          have hout:w5.cell? ⟨G,i/64,none⟩=some (.int .u64 (nth qs (i/64))):=hrow5.cell (by omega)
          have hfr:w5.frozen? ⟨G,i/64,none⟩=false:=hrow5.frozen _
          have hp0:=two_pow_pos (i % 64)
          have e1:IntKind.u64.wrap (2^(i % 64))=2^(i % 64):=by rw [Zv];exact Int.emod_eq_of_lt (by omega) (by have:=hw.out;have:=hwq.1;omega)
          have e2:IntKind.u64.wrap (nth qs (i/64)+2^(i % 64))=nth qs (i/64)+2^(i % 64):=by rw [Zv];exact Int.emod_eq_of_lt (by have:=hwq.1;omega) (by have:=hw.out;omega)
          go_wp2_with fail
          have hb6:Hid (Below wr.heap.size wr w5):=HB5
          have hnew:Hid (RowAt (w5.setCell ⟨G,i/64,none⟩ (.int .u64 (nth qs (i/64)+2^(i % 64)))) G (qs.set (i/64) (nth qs (i/64)+2^(i % 64)))):=hrow5.set _ _
          have hbel5:Hid (Below G w2 (w5.setCell ⟨G,i/64,none⟩ (.int .u64 (nth qs (i/64)+2^(i % 64))))):=(hBel.out.trans (HB5.out.mono (by omega))).setCell (Nat.le_refl _) _
          have hR5:Hid (NatAt (G+1) (w5.setCell ⟨G,i/64,none⟩ (.int .u64 (nth qs (i/64)+2^(i % 64)))) v5 (ws (rr-dd))):=nat_set_row (HN5.out.mono (by omega)) (by omega) _
          have hD5:Hid (NatAt (G+1) (w5.setCell ⟨G,i/64,none⟩ (.int .u64 (nth qs (i/64)+2^(i % 64)))) u9 (ws dd)):=nat_set_row (hDv.out.below HB5.out) (by omega) _
          have hG5:G<(w5.setCell ⟨G,i/64,none⟩ (.int .u64 (nth qs (i/64)+2^(i % 64)))).heap.size:=by have:=HB5.out.size;simp;omega
          generalize w5.setCell ⟨G,i/64,none⟩ (.int .u64 (nth qs (i/64)+2^(i % 64)))=w6 at *
          clear hrow5 hout hfr e1 e2 HN5 HB5 hb6 hR hRow hBel
          refine (shr3_calls 1 hD5.out (by omega) (by omega)).mono ?_
          rintro e w7 ⟨v7,rfl,hn7,hb7⟩
          have HR7:Hid (NatAt (G+1) w7 v5 (ws (rr-dd))):=hR5.out.below hb7
          have HD7:Hid (NatAt (G+1) w7 v7 (ws (val (ws dd)/2^1))):=hn7.mono (by omega)
          have HW7:Hid (RowAt w7 G (qs.set (i/64) (nth qs (i/64)+2^(i % 64)))):=hnew.out.below hb7
          have HB7:Hid (Below G w2 w7):=hbel5.out.trans (hb7.mono (by omega))
          have HG7:Hid (G<w7.heap.size):=by show _<_;have:=hb7.size;omega
          clear hn7 hb7 hR5 hD5 hnew hbel5 hG5 htd htm hwq hlen hc' hp0
          rw [hvd.out] at HD7
          go_wp2
          go_roundw
          case rel=>exact ⟨i,_,_,_,by omega,by go_num,HR7.out,HD7.out,HG7.out,HW7.out,HB7.out,hst2.out,fun hi=>by
            obtain ⟨j,rfl⟩:∃ j,i=j+1:=⟨i-1,by omega⟩
            rw [hdd2.out,half_step,Nat.add_sub_cancel]⟩
          case measure=>simp [intOf]
        · have hc:Hid (Xj rr dd<0):=by show _<_;unfold Xj;split<;>(try split)<;>omega
          have hst2:Hid (Div3At (val xs) (val ys) qs rr i (n/64+1)):=hD.no (by rw [←hdd];omega)
          have hc':=hc.out
          clear hD hdd hd0 hinv
          go_wp2_with fail
          refine (shr3_calls 1 hDv.out (by omega) (by omega)).mono ?_
          rintro e w7 ⟨v7,rfl,hn7,hb7⟩
          have HR7:Hid (NatAt (G+1) w7 u8 (ws rr)):=hR.out.below hb7
          have HD7:Hid (NatAt (G+1) w7 v7 (ws (val (ws dd)/2^1))):=hn7.mono (by omega)
          have HW7:Hid (RowAt w7 G qs):=hRow.out.below hb7
          have HB7:Hid (Below G w2 w7):=hBel.out.trans (hb7.mono (by omega))
          have HG7:Hid (G<w7.heap.size):=by show _<_;have:=hb7.size;omega
          clear hn7 hb7 hR hDv hRow hBel hG hc'
          rw [hvd.out] at HD7
          go_wp2
          go_roundw
          case rel=>exact ⟨i,_,_,_,by omega,by go_num,HR7.out,HD7.out,HG7.out,HW7.out,HB7.out,hst2.out,fun hi=>by
            obtain ⟨j,rfl⟩:∃ j,i=j+1:=⟨i-1,by omega⟩
            rw [hdd2.out,half_step,Nat.add_sub_cancel]⟩
          case measure=>simp [intOf]
      · obtain rfl:k=0:=by omega
        have hD:=hinv.out.1
        obtain ⟨f1,f2⟩:=hD.fin hab.out
        have hq:Hid (val qs=val xs/val ys∧rr=val xs % val ys):=⟨f1,f2⟩
        have hn8:Hid (NatAt G wr (.slice (some ⟨G,0,none⟩) (n/64+1) (n/64+1)) qs):=hrow.nat (Nat.le_refl _) hD.wq _ hD.len (by rw [hD.len];omega)
        have HR8:=Lib.hid hr;have HB8:=Lib.hid hbel
        clear hD f1 f2 hr hdv hrow hbel hinv
        go_wp2_with fail
        refine (QP hn8.out).mono ?_
        rintro e w9 ⟨v9,rfl,hn9,hb9⟩
        have HN9:=Lib.hid hn9;have HB9:=Lib.hid hb9
        clear hn9 hb9
        go_wp2
        go_ret2
        have hGw:=hGw.out
        have hfin:Below w.heap.size w w9:=(HB2.out.trans (HB8.out.mono (by omega))).trans (HB9.out.mono (by omega))
        refine ⟨v9,u8,rfl,?_,?_,hfin⟩
        · rw [←hq.out.1];exact HN9.out.mono (by omega)
        · rw [←hq.out.2];exact (HR8.out.below HB9.out).mono (by omega)
def Xe(m k:Int):Int:=if 0≤k then m*2^k.toNat else m/2^(-k).toNat
def leftB(m k:Int):Bool:=if 0≤k then false else Z6 m (-k).toNat
theorem leftM_rv(m k:Int):∃ f:Rat,0≤f∧f<1∧(m:Rat)*p2 k=(Xe m k:Rat)+f∧(leftB m k=false→f=0)∧(leftB m k=true→0<f):=by
  unfold Xe leftB
  split
  · rename_i h
    exact ⟨0,by grind,by grind,by rw [rcM,←zU h];grind,fun _=>rfl,fun h=>by cases h⟩
  · rename_i h
    have e:=amt_split m (-k).toNat
    rw [show -(((-k).toNat:Nat):Int)=k by omega] at e
    have p:=two_pow_pos (-k).toNat
    have a0:=Int.emod_nonneg m (show (2:Int)^(-k).toNat≠0 by omega)
    have a1:=Int.emod_lt_of_pos m p
    have pk:=qL k
    have b1:=(QK k).2 (QA.2 a1)
    have e2:((2^(-k).toNat:Int):Rat)*p2 k=1:=by
      rw [←zU (show 0≤-k by omega),←Qb,Int.add_left_neg,ZX]
    rw [e2] at b1
    have b0:=(Qo k).2 (zG.2 a0)
    have e0:((0:Int):Rat)=0:=rfl
    rw [e0,Rat.zero_mul] at b0
    refine ⟨_,b0,b1,e,fun hl=>?_,fun hl=>?_⟩
    · have:m % 2^(-k).toNat=0:=by
        refine Classical.byContradiction fun hne=>?_
        rw [(lost_iff m (-k).toNat).2 hne] at hl;cases hl
      rw [this,e0,Rat.zero_mul]
    · have:=(lost_iff m (-k).toNat).1 hl
      have c:=(QK k).2 (QA.2 (show 0<m % 2^(-k).toNat by omega))
      rwa [e0,Rat.zero_mul] at c
def overRK(x y:Dx)(p:Int):Int:=p+2+blen y.m-blen x.m
def overRX(x y:Dx)(p:Int)(up:Bool):Dx :=
  if x.m=0 then ⟨false,[],0⟩ else
  cutD (mkD (!(x.neg == y.neg)) (Ze (Xe x.m (overRK x y p)/y.m) (decide (Xe x.m (overRK x y p) % y.m≠0) || leftB x.m (overRK x y p))) (x.e-y.e-overRK x y p-1)) p up
def overR(a b:Dx)(p:Int)(up:Bool):Dx:=overRX (qC a) (qC b) p up
theorem leftM_blen{m k:Int}(hm:0<m)(_:0≤(blen m:Int)+k)(hp:0<(blen m:Int)+k):0<Xe m k∧(blen (Xe m k):Int)=blen m+k:=by
  unfold Xe
  split
  · rename_i hk
    have pk:=two_pow_pos k.toNat
    exact ⟨Int.mul_pos hm pk,by rw [Ql hm];omega⟩
  · rename_i hk
    have pk:=two_pow_pos (-k).toNat
    have g1:=YT hm
    have g2:=Q5 m
    obtain ⟨s,hs⟩:∃ s:Nat,blen m=s+1+(-k).toNat:=⟨blen m-1-(-k).toNat,by omega⟩
    have l1:2^s≤m/2^(-k).toNat:=by
      rw [Int.le_ediv_iff_mul_le pk,←Int.pow_add,show s+(-k).toNat=blen m-1 by omega];exact g1
    have l2:m/2^(-k).toNat<2^(s+1):=by
      refine Int.ediv_lt_of_lt_mul pk ?_
      rw [←Int.pow_add,←hs];exact g2
    have:=blen_eq l1 l2
    have ps:=two_pow_pos s
    exact ⟨by omega,by omega⟩
theorem overR_best{a b:Dx}{p:Int}{q:Rat}(ha:0≤a.m)(hb:0≤b.m)(hb0:b.m≠0)(hp:1≤p)(hq:q*b.rv=a.rv):Dn p q (overR a b p false).rv∧Up p q (overR a b p true).rv:=by
  unfold overR overRX
  have m1:=zZ (d:=a)
  have m2:=zZ (d:=b)
  have m20:(qC b).m≠0:=fun h=>hb0 ((Zw hb).1 h)
  rw [←Qs ha,←Qs hb] at hq
  generalize qC a=x at *
  generalize qC b=y at *
  have ypos:0<y.m:=by omega
  by_cases hx0:x.m=0
  · rw [if_pos hx0,if_pos hx0]
    have e0:x.rv=0:=Ye hx0
    have y0:y.rv≠0:=by
      rw [sm_amt]
      have:=Rat.mul_pos (cast_ne ypos) (qL y.e)
      cases y.neg<;>simp<;>grind
    have q0:q=0:=by
      rw [e0] at hq
      rcases Rat.mul_eq_zero.1 hq with h | h
      · exact h
      · exact absurd h y0
    rw [q0,show (⟨false,[],0⟩:Dx).rv=0 from Ye rfl]
    exact ⟨.self (.zero p),.self (.zero p)⟩
  · rw [if_neg hx0,if_neg hx0]
    have xpos:0<x.m:=by omega
    obtain ⟨k,hk⟩:∃ k:Int,overRK x y p=k:=⟨_,rfl⟩
    have hk':k=p+2+(blen y.m:Int)-(blen x.m:Int):=hk.symm
    rw [hk]
    have by0:=Zm ypos
    obtain ⟨hM,hMb⟩:=leftM_blen (m:=x.m) (k:=k) xpos (by omega) (by omega)
    obtain ⟨f,f0,f1,hf,hf2,hf3⟩:=leftM_rv x.m k
    generalize Xe x.m k=M at *
    generalize leftB x.m k=lo at *
    have g1:=YT hM
    have g2:=Q5 y.m
    have hQ:(2:Int)^(p-1).toNat≤M/y.m:=by
      rw [Int.le_ediv_iff_mul_le ypos]
      have bx:=Zm xpos
      have e1:(2:Int)^(blen M-1)=2^(blen M-1-blen y.m)*2^blen y.m:=by rw [←Int.pow_add];congr 1;omega
      have e2:=Qf (j:=(p-1).toNat) (k:=blen M-1-blen y.m) (by omega)
      have e3:(2:Int)^(p-1).toNat*y.m≤2^(blen M-1-blen y.m)*2^blen y.m:=by
        have:=two_pow_pos (p-1).toNat
        exact Int.mul_le_mul e2 (Int.le_of_lt g2) m2 (by have:=two_pow_pos (blen M-1-blen y.m);omega)
      omega
    have d1:=Int.mul_ediv_add_emod M y.m
    have d2:=Int.emod_nonneg M m20
    have d3:=Int.emod_lt_of_pos M ypos
    generalize M/y.m=Q at *
    obtain ⟨q',hq'⟩:∃ q':Rat,q'=(if (!(x.neg == y.neg)) then -1 else 1)*q:=⟨_,rfl⟩
    have hqa:q' * (y.m:Rat)=((M:Rat)+f)*p2 (x.e-y.e-k):=by
      rw [sm_amt,sm_amt x] at hq
      have e1:p2 x.e=p2 (x.e-y.e-k)*(p2 y.e*p2 k):=by rw [←Qb,←Qb];congr 1;omega
      have h1:q' * ((y.m:Rat)*p2 y.e)=(x.m:Rat)*p2 x.e:=by
        rw [hq']
        cases hx:x.neg<;>cases hy:y.neg<;>rw [hx,hy] at hq<;>simp at hq ⊢<;>grind
      rw [e1] at h1
      have p0:=qL y.e
      have h2:(q' * (y.m:Rat))*p2 y.e=(((M:Rat)+f)*p2 (x.e-y.e-k))*p2 y.e:=by rw [←hf];grind
      have h3:q' * (y.m:Rat)≤((M:Rat)+f)*p2 (x.e-y.e-k):=by rw [←Qo y.e];grind
      have h4:((M:Rat)+f)*p2 (x.e-y.e-k)≤q' * (y.m:Rat):=by rw [←Qo y.e];grind
      exact Rat.le_antisymm h3 h4
    have y0:=cast_ne ypos
    have cmp:∀ c:Int,(c:Rat)*p2 (x.e-y.e-k)*(y.m:Rat)=((y.m*c:Int):Rat)*p2 (x.e-y.e-k):=fun c=>by rw [rcM];grind
    have key:=sticky_best (p:=p) (E:=x.e-y.e-k-1) (Q:=Q) (q:=q') (b:=decide (M % y.m≠0) || lo) hp hQ (fun hb=>by
        rw [Bool.or_eq_false_iff] at hb
        have hr:M % y.m=0:=by simpa using hb.1
        have hf0:=hf2 hb.2
        rw [hr,Int.add_zero] at d1
        rw [hf0,Rat.add_zero] at hqa
        rw [show x.e-y.e-k-1+1=x.e-y.e-k by omega]
        have e:=cmp Q
        rw [d1,←hqa] at e
        have h3:q'≤(Q:Rat)*p2 (x.e-y.e-k):=by rw [←Rat.not_lt,←Rat.mul_lt_mul_right y0];grind
        have h4:(Q:Rat)*p2 (x.e-y.e-k)≤q':=by rw [←Rat.not_lt,←Rat.mul_lt_mul_right y0];grind
        exact Rat.le_antisymm h3 h4) (fun hb=>by
        rw [show x.e-y.e-k-1+1=x.e-y.e-k by omega]
        have l1:((y.m*Q:Int):Rat)<(M:Rat)+f:=by
          rcases Bool.or_eq_true_iff.1 hb with h | h
          · have hr:M % y.m≠0:=by simpa using h
            have:=QA.2 (show y.m*Q<M by omega);grind
          · have h1:=hf3 h
            have:=zG.2 (show y.m*Q≤M by omega);grind
        have l2:(M:Rat)+f<((y.m*(Q+1):Int):Rat):=by
          have:=zG.2 (show M+1≤y.m*(Q+1) by rw [Int.mul_add,Int.mul_one];omega)
          rw [rcA] at this
          have e1:((1:Int):Rat)=1:=rfl
          rw [e1] at this;grind
        constructor
        · rw [←Rat.mul_lt_mul_right y0,cmp,hqa,QK];exact l1
        · rw [←Rat.mul_lt_mul_right y0,cmp,hqa,QK];exact l2)
    have hS:=(sticky_blen (q:=Q) (b:=decide (M % y.m≠0) || lo) (by have:=two_pow_pos (p-1).toNat;omega)).1
    have best:=Xa (d:=mkD (!(x.neg == y.neg)) (Ze Q (decide (M % y.m≠0) || lo)) (x.e-y.e-k-1)) mkD_p hp
    rw [Y9 hS] at best
    cases hs:(!(x.neg == y.neg)) with
    | false =>
      rw [hs] at best hq'
      simp only [Bool.false_eq_true,if_false] at best hq'
      have:q'=q:=by grind
      rw [this] at key
      exact ⟨key.1 _ best.1,key.2 _ best.2⟩
    | true =>
      rw [hs] at best hq'
      simp only [if_true,Rat.intCast_neg,Rat.neg_mul] at best hq'
      have e1:q = -q':=by grind
      have b1:=best.1.neg
      have b2:=best.2.neg
      rw [Rat.neg_neg] at b1 b2
      have c1:=(key.2 _ b1).neg
      have c2:=(key.1 _ b2).neg
      rw [Rat.neg_neg] at c1 c2
      rw [e1]
      exact ⟨c1,c2⟩
theorem zeroD_f:OneF ⟨false,[],0⟩:=⟨false,0,0,Int.le_refl _,(Zd _ _).symm⟩
theorem overR_f{a b:Dx}{p:Int}{up:Bool}:OneF (overR a b p up):=by
  unfold overR overRX;split
  · exact zeroD_f
  · exact YI mkD_p
theorem overD_f{a b:Dx}{p:Int}{up:Bool}:OneF (Qc a b p up):=by
  unfold Qc overX;split
  · exact zeroD_f
  · exact YI mkD_p
theorem rv_ne0{b:Dx}(hb:0≤b.m)(hb0:b.m≠0):b.rv≠0:=fun h=>hb0 (by
  have:=(Z9 hb).2 h
  simpa [Dx.zeroB] using this)
theorem quo_ex{a b:Dx}(hb:0≤b.m)(hb0:b.m≠0):∃ q:Rat,q*b.rv=a.rv:=⟨a.rv/b.rv,Rat.div_mul_cancel (rv_ne0 hb hb0)⟩
theorem overR_eq{a b:Dx}{p:Int}{up:Bool}(ha:0≤a.m)(hb:0≤b.m)(hb0:b.m≠0)(hp:1≤p):overR a b p up=Qc a b p up:=by
  obtain ⟨q,hq⟩:=quo_ex (a:=a) hb hb0
  have h1:=overR_best ha hb hb0 hp hq
  have h2:=over_best ha hb hb0 hp hq
  refine overR_f.ext overD_f ?_
  cases up
  · exact h1.1.uniq h2.1
  · exact h1.2.uniq h2.2
def nDiv:qU:=qF [.w,.w] fun (xs:List Int) (ys:List Int)=>(some (0<val ys∧blen (val xs)≤1073741824∧ys.length≤8796093022208),.tup [.one (.words true (ws (val xs/val ys))),.one (.words true (ws (val xs % val ys)))])
theorem nDiv_ok:SpecOk Tryz.prog 127 nDiv :=
  Qq Tryz.func127 rfl (by decide) fun _ _ hC hX _=>fun _ _ _ h _ _ _ h' hp=>nat2_back hC hX (div3_calls (zL h) (zL h') hp.1 hp.2.1 hp.2.2)
def fWhole:qU:=qF [.d] fun (d:Dx)=>(some (d.Sm 68719476736),dT (qX d))
theorem fWhole_vc(d:Dx)(Q:Tv→Prop):qH ⟨tys2,sRef4⟩ (fun _=>none) 0 Tryz.f132 [.agg (dyL false d)] Q=(eB 4611686018427387904 d∧br (leI 0 (qC d).e) (Q (Tv.sv (Sv.agg (dyL true (qC d))))) (inR ((0:Int)-(qC d).e)∧((0:Int)≤0-(qC d).e∧(0:Int)-(qC d).e≤9007199254740992)∧br (Z6 (val (qC d).xs) (Int.toNat ((0:Int)-(qC d).e))) (br (qC d).neg (zR 1∧(List.length (ws (val (qC d).xs/2^Int.toNat ((0:Int)-(qC d).e)))≤17592186044414∧List.length (ws 1)≤17592186044414)∧((-4611686018427387904:Int)≤0∧(0:Int)≤4611686018427387904)∧Q (Tv.sv (Sv.agg (dyL true (mkD (qC d).neg (val (ws (val (ws (val (qC d).xs/2^Int.toNat ((0:Int)-(qC d).e)))+val (ws 1)))) 0))))) (((-4611686018427387904:Int)≤0∧(0:Int)≤4611686018427387904)∧Q (Tv.sv (Sv.agg (dyL true (mkD (qC d).neg (val (ws (val (qC d).xs/2^Int.toNat ((0:Int)-(qC d).e)))) 0)))))) (((-4611686018427387904:Int)≤0∧(0:Int)≤4611686018427387904)∧Q (Tv.sv (Sv.agg (dyL true (mkD (qC d).neg (val (ws (val (qC d).xs/2^Int.toNat ((0:Int)-(qC d).e)))) 0))))))):=by kernel_rfl
theorem fWhole_ok:SpecOk Tryz.prog 132 fWhole :=
  qG (qO QF Z8) mixed Tryz.func132 rfl (by decide) (by decide) fun (d:Dx) hd hp=>⟨fun _=>none,0,by
    obtain ⟨s1,s2,s3⟩:d.Sm 68719476736:=hp
    have m1:=one_m0 (Dx.Wf.m0 hd)
    obtain ⟨z1,z2,z3⟩:=ZM (Dx.Wf.m0 hd) ⟨s1,s2,s3⟩
    have p0:=two_pow_pos (-(qC d).e).toNat
    have hq:0≤(qC d).m/2^(-(qC d).e).toNat:=Int.ediv_nonneg m1 (by omega)
    have hql:(ws ((qC d).m/2^(-(qC d).e).toNat)).length≤17592186044414:=QR hq (by
      have:=ZK (m:=(qC d).m/2^(-(qC d).e).toNat) (n:=(qC d).m) (Int.ediv_le_self _ m1);omega)
    show qH _ _ _ _ _ (fun t=>t=dT (qX d))
    refine (fWhole_vc d _).mpr ⟨⟨by omega,by omega⟩,qB (fun h=>?_) fun h=>?_⟩
    · rw [qX,if_pos (zS.1 h)]
    · have h:=Qn.1 h
      rw [Int.zero_sub,Zi]
      have ev:val (qC d).xs=(qC d).m:=rfl
      rw [ev,qN hq,qX,if_neg h]
      refine ⟨⟨by omega,by omega⟩,⟨by omega,by omega⟩,qB (fun h1=>qB (fun h2=>⟨Yn,⟨hql,by simp [ws_one]⟩,⟨by omega,by omega⟩,?_⟩) fun h2=>⟨⟨by omega,by omega⟩,?_⟩) fun h1=>⟨⟨by omega,by omega⟩,?_⟩⟩
      · rw [qN (by omega),h1,h2];rfl
      · rw [h1,h2];simp
      · rw [h1];simp⟩
def gLeft:qU:=qF [.w,.i .i64] fun (xs:List Int) (k:Int)=>(some (k≤1099511627776∧-9007199254740992≤k∧xs.length≤8796093022208),.tup [.one (.words true (ws (Xe (val xs) k))),.one (.bool (leftB (val xs) k))])
theorem gLeft_vc(xs:List Int)(k:Int)(Q:Tv→Prop):qH ⟨tys2,sRef4⟩ (fun _=>none) 0 Tryz.f126 [.one (.words false xs),.one (.int .i64 k)] Q=(br (leI 0 k) (((0:Int)≤k∧k≤1099511627776∧List.length xs≤8796093022208)∧Q (Tv.tup [Sv.one (At.words true (ws (val xs*2^Int.toNat k))),Sv.one (At.bool false)])) (inR ((0:Int)-k)∧((0:Int)≤0-k∧(0:Int)-k≤9007199254740992)∧Q (Tv.tup [Sv.one (At.words true (ws (val xs/2^Int.toNat ((0:Int)-k)))),Sv.one (At.bool (Z6 (val xs) (Int.toNat ((0:Int)-k))))]))):=by kernel_rfl
theorem gLeft_ok:SpecOk Tryz.prog 126 gLeft :=
  qG (qO QF Z8) mixed Tryz.func126 rfl (by decide) (by decide) fun (xs:List Int) _ (k:Int) _ hp=>⟨fun _=>none,0,by
    obtain ⟨k1,k0,l⟩:k≤1099511627776∧-9007199254740992≤k∧xs.length≤8796093022208:=hp
    show qH _ _ _ _ _ (fun t=>t = .tup [.one (.words true (ws (Xe (val xs) k))),.one (.bool (leftB (val xs) k))])
    refine (gLeft_vc xs k _).mpr (qB (fun h=>⟨⟨zS.1 h,by omega,l⟩,?_⟩) fun h=>⟨⟨by omega,by omega⟩,⟨by have:=Qn.1 h;omega,by omega⟩,?_⟩)
    · rw [Xe,leftB,if_pos (zS.1 h),if_pos (zS.1 h)]
    · rw [Xe,leftB,if_neg (Qn.1 h),if_neg (Qn.1 h),Int.zero_sub]⟩
def sOv:List (FuncId×qU):=[(127,nDiv),(126,gLeft)] ++ sRef4
theorem sOv_ok:SpecsOk Tryz.prog sOv:=⟨nDiv_ok,gLeft_ok,Z8⟩
theorem gOver_vc(a b:Dx)(p:Int)(up:Bool)(Q:Tv→Prop):qH ⟨tys2,sOv⟩ (fun _=>none) 0 Tryz.f81 [.agg (dyL false a),.agg (dyL false b),.one (.int .i64 p),.one (.bool up)] Q=(eB 4611686018427387904 a∧eB 4611686018427387904 b∧true=true∧br (eqI (↑(List.length (qC a).xs):Int) 0) (Q (Tv.sv (Sv.agg [At.bool false,At.words true [],At.int .i64 0]))) (inR (p+2)∧inR (p+2+(↑(blen (val (qC b).xs)):Int))∧inR (p+2+(↑(blen (val (qC b).xs)):Int)-(↑(blen (val (qC a).xs)):Int))∧true=true∧(p+2+(↑(blen (val (qC b).xs)):Int)-(↑(blen (val (qC a).xs)):Int)≤1099511627776∧(-9007199254740992:Int)≤p+2+(↑(blen (val (qC b).xs)):Int)-(↑(blen (val (qC a).xs)):Int)∧List.length (qC a).xs≤8796093022208)∧((0:Int)<val (qC b).xs∧blen (val (ws (Xe (val (qC a).xs) (p+2+(↑(blen (val (qC b).xs)):Int)-(↑(blen (val (qC a).xs)):Int)))))≤1073741824∧List.length (qC b).xs≤8796093022208)∧((0:Int)≤1∧(1:Int)≤1099511627776∧List.length (ws (val (ws (Xe (val (qC a).xs) (p+2+(↑(blen (val (qC b).xs)):Int)-(↑(blen (val (qC a).xs)):Int))))/val (qC b).xs))≤8796093022208)∧br (ltI 0 (↑(List.length (ws (val (ws (Xe (val (qC a).xs) (p+2+(↑(blen (val (qC b).xs)):Int)-(↑(blen (val (qC a).xs)):Int)))) % val (qC b).xs))):Int)) (zR 1∧(List.length (ws (val (ws (val (ws (Xe (val (qC a).xs) (p+2+(↑(blen (val (qC b).xs)):Int)-(↑(blen (val (qC a).xs)):Int))))/val (qC b).xs))*2^1))≤17592186044414∧List.length (ws 1)≤17592186044414)∧inR ((qC a).e-(qC b).e)∧inR ((qC a).e-(qC b).e-(p+2+(↑(blen (val (qC b).xs)):Int)-(↑(blen (val (qC a).xs)):Int)))∧inR ((qC a).e-(qC b).e-(p+2+(↑(blen (val (qC b).xs)):Int)-(↑(blen (val (qC a).xs)):Int))-1)∧((-4611686018427387904:Int)≤(qC a).e-(qC b).e-(p+2+(↑(blen (val (qC b).xs)):Int)-(↑(blen (val (qC a).xs)):Int))-1∧(qC a).e-(qC b).e-(p+2+(↑(blen (val (qC b).xs)):Int)-(↑(blen (val (qC a).xs)):Int))-1≤4611686018427387904)∧(Dx.Sm 34359738368 (mkD (!(qC a).neg == (qC b).neg) (val (ws (val (ws (val (ws (val (ws (Xe (val (qC a).xs) (p+2+(↑(blen (val (qC b).xs)):Int)-(↑(blen (val (qC a).xs)):Int))))/val (qC b).xs))*2^1))+val (ws 1)))) ((qC a).e-(qC b).e-(p+2+(↑(blen (val (qC b).xs)):Int)-(↑(blen (val (qC a).xs)):Int))-1))∧(0:Int)≤p∧p≤1099511627776)∧Q (Tv.sv (Sv.agg (dyL true (cutD (mkD (!(qC a).neg == (qC b).neg) (val (ws (val (ws (val (ws (val (ws (Xe (val (qC a).xs) (p+2+(↑(blen (val (qC b).xs)):Int)-(↑(blen (val (qC a).xs)):Int))))/val (qC b).xs))*2^1))+val (ws 1)))) ((qC a).e-(qC b).e-(p+2+(↑(blen (val (qC b).xs)):Int)-(↑(blen (val (qC a).xs)):Int))-1)) p up))))) (br (leftB (val (qC a).xs) (p+2+(↑(blen (val (qC b).xs)):Int)-(↑(blen (val (qC a).xs)):Int))) (zR 1∧(List.length (ws (val (ws (val (ws (Xe (val (qC a).xs) (p+2+(↑(blen (val (qC b).xs)):Int)-(↑(blen (val (qC a).xs)):Int))))/val (qC b).xs))*2^1))≤17592186044414∧List.length (ws 1)≤17592186044414)∧inR ((qC a).e-(qC b).e)∧inR ((qC a).e-(qC b).e-(p+2+(↑(blen (val (qC b).xs)):Int)-(↑(blen (val (qC a).xs)):Int)))∧inR ((qC a).e-(qC b).e-(p+2+(↑(blen (val (qC b).xs)):Int)-(↑(blen (val (qC a).xs)):Int))-1)∧((-4611686018427387904:Int)≤(qC a).e-(qC b).e-(p+2+(↑(blen (val (qC b).xs)):Int)-(↑(blen (val (qC a).xs)):Int))-1∧(qC a).e-(qC b).e-(p+2+(↑(blen (val (qC b).xs)):Int)-(↑(blen (val (qC a).xs)):Int))-1≤4611686018427387904)∧(Dx.Sm 34359738368 (mkD (!(qC a).neg == (qC b).neg) (val (ws (val (ws (val (ws (val (ws (Xe (val (qC a).xs) (p+2+(↑(blen (val (qC b).xs)):Int)-(↑(blen (val (qC a).xs)):Int))))/val (qC b).xs))*2^1))+val (ws 1)))) ((qC a).e-(qC b).e-(p+2+(↑(blen (val (qC b).xs)):Int)-(↑(blen (val (qC a).xs)):Int))-1))∧(0:Int)≤p∧p≤1099511627776)∧Q (Tv.sv (Sv.agg (dyL true (cutD (mkD (!(qC a).neg == (qC b).neg) (val (ws (val (ws (val (ws (val (ws (Xe (val (qC a).xs) (p+2+(↑(blen (val (qC b).xs)):Int)-(↑(blen (val (qC a).xs)):Int))))/val (qC b).xs))*2^1))+val (ws 1)))) ((qC a).e-(qC b).e-(p+2+(↑(blen (val (qC b).xs)):Int)-(↑(blen (val (qC a).xs)):Int))-1)) p up))))) (inR ((qC a).e-(qC b).e)∧inR ((qC a).e-(qC b).e-(p+2+(↑(blen (val (qC b).xs)):Int)-(↑(blen (val (qC a).xs)):Int)))∧inR ((qC a).e-(qC b).e-(p+2+(↑(blen (val (qC b).xs)):Int)-(↑(blen (val (qC a).xs)):Int))-1)∧((-4611686018427387904:Int)≤(qC a).e-(qC b).e-(p+2+(↑(blen (val (qC b).xs)):Int)-(↑(blen (val (qC a).xs)):Int))-1∧(qC a).e-(qC b).e-(p+2+(↑(blen (val (qC b).xs)):Int)-(↑(blen (val (qC a).xs)):Int))-1≤4611686018427387904)∧(Dx.Sm 34359738368 (mkD (!(qC a).neg == (qC b).neg) (val (ws (val (ws (val (ws (Xe (val (qC a).xs) (p+2+(↑(blen (val (qC b).xs)):Int)-(↑(blen (val (qC a).xs)):Int))))/val (qC b).xs))*2^1))) ((qC a).e-(qC b).e-(p+2+(↑(blen (val (qC b).xs)):Int)-(↑(blen (val (qC a).xs)):Int))-1))∧(0:Int)≤p∧p≤1099511627776)∧Q (Tv.sv (Sv.agg (dyL true (cutD (mkD (!(qC a).neg == (qC b).neg) (val (ws (val (ws (val (ws (Xe (val (qC a).xs) (p+2+(↑(blen (val (qC b).xs)):Int)-(↑(blen (val (qC a).xs)):Int))))/val (qC b).xs))*2^1))) ((qC a).e-(qC b).e-(p+2+(↑(blen (val (qC b).xs)):Int)-(↑(blen (val (qC a).xs)):Int))-1)) p up)))))))):=by kernel_rfl
def gOver:qU:=qF [.d,.d,.i .i64,.b] fun (a:Dx) (b:Dx) (p:Int) (up:Bool)=>(some (a.Sm 67108864∧b.Sm 67108864∧b.m≠0∧1≤p∧p≤67108864),dT (Qc a b p up))
theorem gOver_ok:SpecOk Tryz.prog 81 gOver :=
  qG (qO QF sOv_ok) mixed Tryz.func81 rfl (by decide) (by decide) fun (a:Dx) ha (b:Dx) hb (p:Int) _ (up:Bool) _ hp=>⟨fun _=>none,0,by
    obtain ⟨s1,s2,hb0,p0,p1⟩:Dx.Sm 67108864 a∧Dx.Sm 67108864 b∧Dx.m b≠0∧1≤p∧p≤67108864:=hp
    have ma:=Dx.Wf.m0 ha
    have mb:=Dx.Wf.m0 hb
    have m1:=one_m0 ma
    have m2:=one_m0 mb
    have m2p:0<(qC b).m:=by have:=(one_m_zero mb).1;omega
    have z1:=ZM ma s1
    have z2:=ZM mb s2
    have hl:=one_len ma
    have f1:OneF (qC a):=oneD_f ma
    have f2:OneF (qC b):=oneD_f mb
    show qH _ _ _ _ _ (fun t=>t=dT (Qc a b p up))
    rw [←overR_eq ma mb hb0 p0]
    show qH _ _ _ _ _ (fun t=>t=dT (overRX (qC a) (qC b) p up))
    refine (gOver_vc a b p up _).mpr ⟨s1.eB (by omega),s2.eB (by omega),rfl,?_⟩
    rw [hl]
    generalize qC a=x at *
    generalize qC b=y at *
    refine qB (fun h=>?_) fun h=>?_
    · rw [overRX,if_pos (of_decide_eq_true h)];rfl
    · have hx0:x.m≠0:=of_decide_eq_false h
      have hG:overRX x y p up=cutD (mkD (!(x.neg == y.neg)) (Ze (Xe x.m (overRK x y p)/y.m) (decide (Xe x.m (overRK x y p) % y.m≠0) || leftB x.m (overRK x y p))) (x.e-y.e-overRK x y p-1)) p up:=by rw [overRX,if_neg hx0]
      rw [hG]
      have hK:overRK x y p=p+2+(blen y.m:Int)-(blen x.m:Int):=rfl
      obtain ⟨s3,s4,s5⟩:=z1
      obtain ⟨s6,s7,s8⟩:=z2
      have by0:=Zm m2p
      obtain ⟨hM,hMb⟩:=leftM_blen (m:=x.m) (k:=overRK x y p) (by omega) (by omega) (by omega)
      have ex:val x.xs=x.m:=rfl
      have ey:val y.xs=y.m:=rfl
      have lx:x.xs.length≤8796093022208:=by rw [f1.xs];exact QR m1 (by omega)
      have ly:y.xs.length≤8796093022208:=by rw [f2.xs];exact QR m2 (by omega)
      rw [ex,ey]
      rw [←hK]
      generalize overRK x y p=k at *
      generalize Xe x.m k=M at *
      generalize leftB x.m k=lo at *
      have hQ:0≤M/y.m:=Int.ediv_nonneg (by omega) m2
      have hQb:=ZK (m:=M/y.m) (n:=M) (Int.ediv_le_self _ (by omega))
      have hR:0≤M % y.m:=Int.emod_nonneg _ (by omega)
      have hQ2:0≤M/y.m*2^1:=by omega
      have lQ:=QR (k:=8796093022206) hQ (by omega)
      rw [qN (show 0≤M by omega),qN hQ,YV hR,qN hQ2,Zi,qN (show 0≤M/y.m*2^1+1 by omega)]
      have st1:∀ bb:Bool,(decide (M % y.m≠0) || lo)=bb→bb=true→M/y.m*2^1+1=Ze (M/y.m) (decide (M % y.m≠0) || lo):=fun bb h1 h2=>by rw [h1,h2];rfl
      have lQ2:(ws (M/y.m*2^1)).length≤17592186044414:=by
        have:=QR (n:=M/y.m*2^1) (k:=17592186044414) hQ2 (by
          by_cases h0:M/y.m=0
          · rw [h0];simp [blen]
          · rw [Ql (by omega)];omega)
        exact this
      have sz:∀ bb:Bool,Dx.Sm 34359738368 (mkD (!x.neg == y.neg) (Ze (M/y.m) bb) (x.e-y.e-k-1)):=fun bb=>by
        obtain ⟨t1,t2⟩:=sticky_blen (b:=bb) hQ
        exact (mkD_sm (N:=1073741824) (M:=1073741824) t1 (by omega) (by omega) (by omega)).mono (by omega)
      have e1:M/y.m*2^1+1=Ze (M/y.m) true:=rfl
      have e0:M/y.m*2^1=Ze (M/y.m) false:=by show _=M/y.m*2+0;omega
      refine ⟨⟨by omega,by omega⟩,⟨by omega,by omega⟩,⟨by omega,by omega⟩,rfl,⟨by omega,by omega,lx⟩,⟨m2p,by omega,ly⟩,⟨by omega,by omega,by omega⟩,qB (fun hr=>?_) fun hr=>qB (fun hlo=>?_) fun hlo=>?_⟩
      · rw [hr,Bool.true_or,e1]
        exact ⟨Yn,⟨lQ2,by simp [ws_one]⟩,⟨by omega,by omega⟩,⟨by omega,by omega⟩,⟨by omega,by omega⟩,⟨by omega,by omega⟩,⟨sz true,by omega,by omega⟩,rfl⟩
      · rw [hr,hlo,Bool.false_or,e1]
        exact ⟨Yn,⟨lQ2,by simp [ws_one]⟩,⟨by omega,by omega⟩,⟨by omega,by omega⟩,⟨by omega,by omega⟩,⟨by omega,by omega⟩,⟨sz true,by omega,by omega⟩,rfl⟩
      · rw [hr,hlo,Bool.false_or,e0]
        exact ⟨⟨by omega,by omega⟩,⟨by omega,by omega⟩,⟨by omega,by omega⟩,⟨by omega,by omega⟩,⟨sz false,by omega,by omega⟩,rfl⟩⟩
def gLess:qU:=qF [.v,.v,.i .i64] fun (v:Vx) (u:Vx) (p:Int)=>(some (v.Sm 134217728∧u.Sm 134217728∧0≤p∧p≤1099511627776),vT (lessV v u p))
theorem gLess_vc(v u:Vx)(p:Int)(Q:Tv→Prop):qH ⟨tys2,sG3⟩ (fun _=>none) 0 Tryz.f27 [.agg (ivL false v),.agg (ivL false u),.one (.int .i64 p)] Q=((eB 4611686018427387904 u.lo∧eB 4611686018427387904 u.hi)∧(Vx.Sm 268435456 v∧Vx.Sm 268435456 (ZF u)∧(0:Int)≤p∧p≤1099511627776)∧true=true∧Q (Tv.sv (Sv.agg (ivL true (plusV v (ZF u) p))))):=by kernel_rfl
theorem gLess_ok:SpecOk Tryz.prog 27 gLess :=
  qG (qO QF sG3_ok) mixed Tryz.func27 rfl (by decide) (by decide) fun (v:Vx) hv (u:Vx) hu (p:Int) _ hp=>⟨fun _=>none,0,by
    obtain ⟨⟨a1,a2⟩,⟨b1,b2⟩,p0,p1⟩:v.Sm 134217728∧u.Sm 134217728∧0≤p∧p≤1099511627776:=hp
    have n1:=Yd b1 (Dx.Wf.m0 hu.1)
    have n2:=Yd b2 (Dx.Wf.m0 hu.2)
    exact (gLess_vc v u p _).mpr ⟨⟨b1.eB (by omega),b2.eB (by omega)⟩,⟨⟨a1.mono (by omega),a2.mono (by omega)⟩,⟨n2.mono (by omega),n1.mono (by omega)⟩,p0,p1⟩,rfl,rfl⟩⟩
def sNr:List (FuncId×qU):=(132,fWhole) :: sRef4
theorem sNr_ok:SpecsOk Tryz.prog sNr:=⟨fWhole_ok,Z8⟩
theorem hNear_vc(d:Dx)(Q:Tv→Prop):qH ⟨tys2,sNr⟩ (fun _=>none) 0 Tryz.f88 [.agg (dyL false d)] Q=(zR 1∧(Dx.Sm 68719476736 d∧Dx.Sm 68719476736 (Dx.mk false (ws 1) (-1)))∧Dx.Sm 68719476736 (Qx d (Dx.mk false (ws 1) (-1)))∧(Dx.Sm 34359738368 (qX (Qx d (Dx.mk false (ws 1) (-1))))∧Dx.Sm 34359738368 d)∧br (sameD (Qm (qX (Qx d (Dx.mk false (ws 1) (-1)))) d) (Dx.mk false (ws 1) (-1))) (br (ltI 0 (↑(List.length (qX (Qx d (Dx.mk false (ws 1) (-1)))).xs):Int)) (true=true∧br (eqI (qX (Qx d (Dx.mk false (ws 1) (-1)))).e 0) (inR 1∧(Dx.Sm 34359738368 (qX (Qx d (Dx.mk false (ws 1) (-1))))∧Dx.Sm 34359738368 (mkS 1 0))∧true=true∧Q (Tv.sv (Sv.agg (dyL true (Qm (qX (Qx d (Dx.mk false (ws 1) (-1)))) (mkS 1 0)))))) (Q (Tv.sv (Sv.agg (dyL true (qX (Qx d (Dx.mk false (ws 1) (-1))))))))) (true=true∧Q (Tv.sv (Sv.agg (dyL true (qX (Qx d (Dx.mk false (ws 1) (-1))))))))) (true=true∧Q (Tv.sv (Sv.agg (dyL true (qX (Qx d (Dx.mk false (ws 1) (-1))))))))):=by kernel_rfl
def hNear:qU:=qF [.d] fun (d:Dx)=>(some (d.Sm 268435456),dT (Qy d))
theorem ws_1:(⟨false,ws 1,-1⟩:Dx)=halfD:=by rw [ws_one];rfl
theorem sameD_refl2(d:Dx):sameD d d=true:=by simp [sameD,eqI]
theorem sameD_eq2{a b:Dx}(h:sameD a b=true):a=b:=by
  obtain ⟨n,xs,e⟩:=a
  obtain ⟨n',xs',e'⟩:=b
  simp [sameD,eqI] at h
  obtain ⟨rfl,rfl,rfl⟩:=h
  rfl
theorem same_iff{a b:Dx}(ha:OneF a)(hb:OneF b):sameD a b=true↔a.rv=b.rv:=by
  constructor
  · intro h
    have:a=b:=sameD_eq2 h
    rw [this]
  · intro h
    rw [ha.ext hb h];exact sameD_refl2 _
theorem hNear_ok:SpecOk Tryz.prog 88 hNear :=
  qG (qO QF sNr_ok) mixed Tryz.func88 rfl (by decide) (by decide) fun (d:Dx) hd hp=>⟨fun _=>none,0,by
    have s:d.Sm 268435456:=hp
    have m0:=Dx.Wf.m0 hd
    obtain ⟨z1,z2⟩:=near_sm1 m0 s (by omega)
    show qH _ _ _ _ _ (fun t=>t=dT (Qy d))
    refine (hNear_vc d _).mpr ?_
    rw [ws_1]
    have p1:=Y2 (d:=Qx d halfD)
    have ff:=floorD_f (d:=Qx d halfD) YF
    have z3:(Qm (qX (Qx d halfD)) d).Sm 68719476736:=(Xw (N:=4294967300) p1 YQ z2 ((Yd s m0).mono (by omega))).mono (by omega)
    have z5:Dx.Sm 34359738368 (mkS 1 0):=mkS_sm5.mono (by omega)
    have hc:sameD (Qm (qX (Qx d halfD)) d) halfD=true↔QJ (Qm (qX (Qx d halfD)) d) halfD=0:=by
      rw [same_iff (lessD_f p1) halfD_f,cmpD_eq0]
    have hl:ltI 0 ((qX (Qx d halfD)).xs.length:Nat)=decide ((qX (Qx d halfD)).m≠0):=by
      rw [ff.xs,YV p1]
    rw [hl]
    refine ⟨Yn,⟨s.mono (by omega),halfD_sm.mono (by omega)⟩,z1.mono (by omega),⟨z2.mono (by omega),s.mono (by omega)⟩,?_⟩
    unfold Qy
    refine qB (fun h1=>qB (fun h2=>⟨rfl,qB (fun h3=>⟨⟨by omega,by omega⟩,⟨z2.mono (by omega),z5⟩,rfl,?_⟩) fun h3=>?_⟩) fun h2=>⟨rfl,?_⟩) fun h1=>⟨rfl,?_⟩
    · rw [if_pos ⟨zX.1 h3,of_decide_eq_true h2,hc.1 h1⟩]
    · rw [if_neg fun k=>qR.1 h3 k.1]
    · rw [if_neg fun k=>of_decide_eq_false h2 k.2.1]
    · rw [if_neg fun k=>by rw [hc.2 k.2.2] at h1;cases h1]⟩
def tyUint:TyRow:=⟨78,1,false,[.int .u64 0],.int .u64⟩
def tysU:List TyRow:=tyUint :: tys2
theorem tysU_ok:RowsOk Tryz.prog tysU:=⟨by kernel_rfl,QF⟩
def hBy4:qU:=qF [.d] fun (d:Dx)=>(some (OneF d∧0≤d.e),iT (by4I d))
theorem hBy4_vc(d:Dx)(Q:Tv→Prop):qH ⟨tysU,sNr⟩ (fun _=>none) 0 Tryz.f133 [.agg (dyL false d)] Q=(br (Dx.zeroB d) (Q (iT 0)) (br (leI 2 d.e) (Q (iT 0)) (((0:Int)≤0∧(0:Int)<(↑(List.length d.xs):Int))∧(0:Int)≤IntKind.wrap IntKind.u64 d.e∧true=true∧br d.neg (inR ((4:Int)-ZG BinOp.and IntKind.i64 (IntKind.wrap IntKind.i64 (shlI IntKind.u64 (nth d.xs 0) (IntKind.wrap IntKind.u64 d.e))) 3)∧Q (iT (ZG BinOp.and IntKind.i64 ((4:Int)-ZG BinOp.and IntKind.i64 (IntKind.wrap IntKind.i64 (shlI IntKind.u64 (nth d.xs 0) (IntKind.wrap IntKind.u64 d.e))) 3) 3))) (Q (iT (ZG BinOp.and IntKind.i64 (IntKind.wrap IntKind.i64 (shlI IntKind.u64 (nth d.xs 0) (IntKind.wrap IntKind.u64 d.e))) 3)))))):=by kernel_rfl
theorem hBy4_ok:SpecOk Tryz.prog 133 hBy4 :=
  qG (qO tysU_ok sNr_ok) mixed Tryz.func133 rfl (by decide) (by decide) fun (d:Dx) _ hp=>⟨fun _=>none,0,by
    obtain ⟨f,e0⟩:OneF d∧0≤d.e:=hp
    show qH _ _ _ _ _ (fun t=>t=iT (by4I d))
    refine (hBy4_vc d _).mpr (qB (fun h=>?_) fun h=>qB (fun h1=>?_) fun h1=>?_)
    · rw [by4_zero (QC.1 h)]
    · rw [by4_great (zS.1 h1)]
    · have h1:=Qn.1 h1
      have m0:=f.p
      have mp:0<d.m:=by have:=QV.1 h;omega
      have ew:IntKind.wrap .u64 d.e=d.e:=ZY ⟨e0,by omega⟩
      rw [ew,f.xs,by4_low mp e0 (by omega)]
      have hl:0<((ws d.m).length:Int):=by rw [Xp mp];simp
      refine ⟨⟨by omega,hl⟩,e0,rfl,qB (fun h2=>⟨⟨by omega,by omega⟩,?_⟩) fun h2=>?_⟩
      · rw [and_mask3]
        have:by4I d=(4-d.m*2^d.e.toNat % 4) % 4:=by
          unfold by4I YJ Dx.sm;rw [if_pos h2,Int.neg_mul];omega
        rw [this]
      · have:by4I d=d.m*2^d.e.toNat % 4:=by
          unfold by4I YJ Dx.sm;rw [if_neg (by rw [h2];simp)]
        rw [this]⟩
def sDv:List (FuncId×qU):=[(62,gSpan),(81,gOver)]
theorem sDv_ok:SpecsOk Tryz.prog sDv:=⟨gSpan_ok,gOver_ok,trivial⟩
def gDiv:qU:=qF [.v,.v,.i .i64] fun (v:Vx) (u:Vx) (p:Int)=>(some (v.Sm 16777216∧u.Sm 16777216∧u.lo.m≠0∧u.hi.m≠0∧1≤p∧p≤16777216),vF (Zx v u p))
theorem gDiv_vc(v u:Vx)(p:Int)(Q:Tv→Prop):qH ⟨tys2,sDv⟩ (fun _=>none) 0 Tryz.f49 [.agg (ivL false v),.agg (ivL false u),.one (.int .i64 p)] Q=((Dx.Sm 67108864 v.lo∧Dx.Sm 67108864 u.lo∧Dx.m u.lo≠0∧(1:Int)≤p∧p≤67108864)∧(Dx.Sm 67108864 v.lo∧Dx.Sm 67108864 u.hi∧Dx.m u.hi≠0∧(1:Int)≤p∧p≤67108864)∧(Dx.Sm 67108864 v.hi∧Dx.Sm 67108864 u.lo∧Dx.m u.lo≠0∧(1:Int)≤p∧p≤67108864)∧(Dx.Sm 67108864 v.hi∧Dx.Sm 67108864 u.hi∧Dx.m u.hi≠0∧(1:Int)≤p∧p≤67108864)∧true=true∧(Dx.Sm 67108864 v.lo∧Dx.Sm 67108864 u.lo∧Dx.m u.lo≠0∧(1:Int)≤p∧p≤67108864)∧(Dx.Sm 67108864 v.lo∧Dx.Sm 67108864 u.hi∧Dx.m u.hi≠0∧(1:Int)≤p∧p≤67108864)∧(Dx.Sm 67108864 v.hi∧Dx.Sm 67108864 u.lo∧Dx.m u.lo≠0∧(1:Int)≤p∧p≤67108864)∧(Dx.Sm 67108864 v.hi∧Dx.Sm 67108864 u.hi∧Dx.m u.hi≠0∧(1:Int)≤p∧p≤67108864)∧true=true∧(Dx.Sm 34359738368 (Qc v.lo u.lo p false)∧Dx.Sm 34359738368 (Qc v.lo u.hi p false)∧Dx.Sm 34359738368 (Qc v.hi u.lo p false)∧Dx.Sm 34359738368 (Qc v.hi u.hi p false))∧(Dx.Sm 34359738368 (Qc v.lo u.lo p true)∧Dx.Sm 34359738368 (Qc v.lo u.hi p true)∧Dx.Sm 34359738368 (Qc v.hi u.lo p true)∧Dx.Sm 34359738368 (Qc v.hi u.hi p true))∧Q (Tv.sv (Sv.agg (ivL false (Vx.mk (Qt (Qc v.lo u.lo p false) [Qc v.lo u.hi p false,Qc v.hi u.lo p false,Qc v.hi u.hi p false]).lo (Qt (Qc v.lo u.lo p true) [Qc v.lo u.hi p true,Qc v.hi u.lo p true,Qc v.hi u.hi p true]).hi))))):=by kernel_rfl
theorem gDiv_ok:SpecOk Tryz.prog 49 gDiv :=
  qG (qO QF sDv_ok) mixed Tryz.func49 rfl (by decide) (by decide) fun (v:Vx) hv (u:Vx) hu (p:Int) _ hp=>⟨fun _=>none,0,by
    obtain ⟨⟨a1,a2⟩,⟨b1,b2⟩,z1,z2,p0,p1⟩:v.Sm 16777216∧u.Sm 16777216∧u.lo.m≠0∧u.hi.m≠0∧1≤p∧p≤16777216:=hp
    have v1:=Dx.Wf.m0 hv.1
    have v2:=Dx.Wf.m0 hv.2
    have u1:=Dx.Wf.m0 hu.1
    have u2:=Dx.Wf.m0 hu.2
    have sz:∀ {a b:Dx} {up:Bool},0≤a.m→0≤b.m→a.Sm 16777216→b.Sm 16777216→(Qc a b p up).Sm 34359738368:=fun ha hb sa sb=>(overD_sm ha hb sa sb (by omega) p1).mono (by omega)
    have k1:=a1.mono (M:=67108864) (by omega)
    have k2:=a2.mono (M:=67108864) (by omega)
    have k3:=b1.mono (M:=67108864) (by omega)
    have k4:=b2.mono (M:=67108864) (by omega)
    have kp:p≤67108864:=by omega
    exact (gDiv_vc v u p _).mpr ⟨⟨k1,k3,z1,p0,kp⟩,⟨k1,k4,z2,p0,kp⟩,⟨k2,k3,z1,p0,kp⟩,⟨k2,k4,z2,p0,kp⟩,rfl,⟨k1,k3,z1,p0,kp⟩,⟨k1,k4,z2,p0,kp⟩,⟨k2,k3,z1,p0,kp⟩,⟨k2,k4,z2,p0,kp⟩,rfl,⟨sz v1 u1 a1 b1,sz v1 u2 a1 b2,sz v2 u1 a2 b1,sz v2 u2 a2 b2⟩,⟨sz v1 u1 a1 b1,sz v1 u2 a1 b2,sz v2 u1 a2 b1,sz v2 u2 a2 b2⟩,rfl⟩⟩
end Go.Proofs.YtenkjloaghmjfaaGreatDoor
