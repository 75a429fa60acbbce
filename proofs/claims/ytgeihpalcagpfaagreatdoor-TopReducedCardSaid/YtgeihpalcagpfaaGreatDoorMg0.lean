/-
Numbers as lists of words of 64 bits, lowest first: their value, their one form without words 0 at the end. Plain Lean: no program in sight.
Words on numbers that lie in memory as lists of words: what a slice reads as, in which block it lies, what stays as it was.
Bits of whole numbers: how many there are, how many are 0 at the end. Plain Lean.
The calls of package math/bits, over the whole numbers.
Package limbs: Trim, Of, Len, Low.
Package limbs: Len, Low, Cmp.
Package limbs: Cmp, Add, Sub.
A row of words that the call itself has made: its block as a whole, a word stored, the slice that it reads as.
Package limbs: Add, Sub. Printed by gen_add.py.
Package limbs: Mul.
Package limbs: Shl, Shr.
Package limbs: Shr.
math/bits.Div64.
Package limbs: Short.
Package limbs: step, a digit of a long division.
Package limbs: Div.
Package limbs: Sqrt.
The references' naturals (ulpref03): Norm, Great, Of, word, Len, Bit, Low, Cmp.
The references' naturals (ulpref03): Add, Sub. Printed by gen_nat2.py.
strings.Join, off the shelf.
flags.Show, by hand: a set of flags as text.
flags.Parse of the text "invalid inexact", by hand.
Symbolic execution, first part: what a cell holds as a plain datum (an atom), what a value reads as, how that is kept while the world grows.
Symbolic execution, second part: what an operation does to slots and boxes, told by plain functions; a function's code run in the order of its text.
-/
import Derived.Test.YtgeihpalcagpfaaGreatDoorRows
import Derived.WalkKit
import Derived.WalkSpells
import Derived.WalkLawsBesides
import Derived.Lib.Hide
import Derived.Lib.TrailingZeros
import Derived.Deep.QuietTactic
import Derived.BigQuiet
import Derived.Deep.RegionHeld3
import Derived.Deep.DeepFit
import Derived.KernelRfl
import Derived.IntWalk
import Derived.Lib.BitFns
import Derived.Shelf.Small.Bits
import Derived.Shelf.Strconv.Itoa0
import Derived.Shelf.Bits.Mul64
import Derived.Laws.Externs
import Derived.Laws.Bits64b
import Derived.RegionTactic
import Derived.ChangeAlike
import Derived.Deep.CutBlock
import Derived.Deep.DeepCutAuto
import Derived.Deep.Cut
import Derived.Maps.AppendAt
import Derived.Deep.AppendLies
import Derived.Laws.AppendOwnNone
import Derived.Laws.CopyOwn
import Derived.Shelf.Strings.OnBuilder
namespace Go.Proofs.YtgeihpalcagpfaaGreatDoor
theorem rmR{a b c:Rat}(h:a≤b)(k:0≤c):a*c≤b*c:=Rat.mul_le_mul_of_nonneg_right h k
theorem rmL{a b c:Rat}(h:a≤b)(k:0≤c):c*a≤c*b:=Rat.mul_le_mul_of_nonneg_left h k
theorem rmN{a b:Rat}(h:0≤a)(k:0≤b):0≤a*b:=Rat.mul_nonneg h k
theorem rlL{a b:Rat}(h:a<b):a≤b:=Rat.le_of_lt h
theorem rcA(a b:Int):((a+b:Int):Rat)=a+b:=Rat.intCast_add a b
theorem rcM(a b:Int):((a*b:Int):Rat)=a*b:=Rat.intCast_mul a b
theorem imL{a b c:Int}(h:a≤b)(k:0≤c):c*a≤c*b:=Int.mul_le_mul_of_nonneg_left h k
theorem imR{a b c:Int}(h:a≤b)(k:0≤c):a*c≤b*c:=Int.mul_le_mul_of_nonneg_right h k
def Word(x:Int):Prop:=0≤x∧x<18446744073709551616
def nth(xs:List Int)(j:Nat):Int:=xs.getD j 0
theorem nth_nil(j:Nat):nth [] j=0:=by simp [nth]
theorem nth_cons_zero(x:Int)(xs:List Int):nth (x :: xs) 0=x:=rfl
theorem nth_cons_succ(x:Int)(xs:List Int)(j:Nat):nth (x :: xs) (j+1)=nth xs j:=by simp [nth]
theorem nth_lt{xs:List Int}{j:Nat}(h:j<xs.length):nth xs j=xs[j]:=by simp [nth,h]
theorem nth_ge{xs:List Int}{j:Nat}(h:xs.length≤j):nth xs j=0:=by simp [nth,List.getElem?_eq_none h]
theorem nth_get?{xs:List Int}{j:Nat}(h:j<xs.length):xs[j]?=some (nth xs j):=by rw [nth_lt h];exact List.getElem?_eq_getElem h
theorem nth_take{xs:List Int}{j k:Nat}(h:j<k):nth (xs.take k) j=nth xs j:=by simp [nth,h]
theorem nth_drop(xs:List Int)(j k:Nat):nth (xs.drop k) j=nth xs (k+j):=by simp [nth]
theorem nth_append_left{xs ys:List Int}{j:Nat}(h:j<xs.length):nth (xs ++ ys) j=nth xs j:=by simp [nth,List.getElem?_append_left h]
theorem nth_append_right{xs ys:List Int}{j:Nat}(h:xs.length≤j):nth (xs ++ ys) j=nth ys (j-xs.length):=by simp [nth,List.getElem?_append_right h]
theorem nth_set_eq{xs:List Int}{j:Nat}(x:Int)(h:j<xs.length):nth (xs.set j x) j=x:=by simp [nth,h]
theorem nth_set_ne{xs:List Int}{i j:Nat}(x:Int)(h:i≠j):nth (xs.set i x) j=nth xs j:=by simp [nth,h]
theorem nth_zeros(n j:Nat):nth (List.replicate n 0) j=0:=by
  by_cases h:j<n
  · simp [nth,h]
  · rw [nth_ge (by simp;omega)]
def Words(xs:List Int):Prop:=∀ x∈xs,Word x
theorem Words.nil:Words []:=fun _ h=>by cases h
theorem Words.cons{x:Int}{xs:List Int}(h:Word x)(hs:Words xs):Words (x :: xs):=fun y hy=>by
  rcases List.mem_cons.1 hy with rfl | hy
  · exact h
  · exact hs y hy
theorem Words.head{x:Int}{xs:List Int}(h:Words (x :: xs)):Word x:=h x (List.mem_cons_self ..)
theorem Words.tail{x:Int}{xs:List Int}(h:Words (x :: xs)):Words xs:=fun y hy=>h y (List.mem_cons_of_mem _ hy)
theorem Words.nth{xs:List Int}(h:Words xs)(j:Nat):Word (nth xs j):=by
  by_cases hj:j<xs.length
  · rw [nth_lt hj];exact h _ (List.getElem_mem hj)
  · rw [nth_ge (by omega)];exact ⟨by simp,by simp⟩
theorem Words.take{xs:List Int}(h:Words xs)(k:Nat):Words (xs.take k):=fun y hy=>h y (List.mem_of_mem_take hy)
theorem Words.drop{xs:List Int}(h:Words xs)(k:Nat):Words (xs.drop k):=fun y hy=>h y (List.mem_of_mem_drop hy)
theorem Words.append{xs ys:List Int}(h:Words xs)(k:Words ys):Words (xs ++ ys):=fun y hy=>by
  rcases List.mem_append.1 hy with hy | hy
  · exact h y hy
  · exact k y hy
theorem Words.set{xs:List Int}(h:Words xs)(k:Nat){x:Int}(hx:Word x):Words (xs.set k x):=fun y hy=>by
  rcases List.mem_or_eq_of_mem_set hy with hy | rfl
  · exact h y hy
  · exact hx
theorem Words.zeros(n:Nat):Words (List.replicate n 0):=fun y hy=>by
  rw [List.eq_of_mem_replicate hy];exact ⟨by omega,by omega⟩
def val:List Int→Int
  | []=>0
  | x :: xs=>x+18446744073709551616*val xs
theorem val_nil:val []=0:=rfl
theorem val_cons(x:Int)(xs:List Int):val (x :: xs)=x+18446744073709551616*val xs:=rfl
theorem val_nonneg:∀ {xs:List Int},Words xs→0≤val xs
  | [],_=>by simp [val]
  | x :: xs,h=>by
    have h1:=h.head.1
    have h2:=val_nonneg h.tail
    rw [val_cons];omega
def wpow:Nat→Int
  | 0=>1
  | n+1=>18446744073709551616*wpow n
theorem wpow_zero:wpow 0=1:=rfl
theorem wpow_succ(n:Nat):wpow (n+1)=18446744073709551616*wpow n:=rfl
theorem wpow_pos:∀ n,0<wpow n
  | 0=>by simp [wpow]
  | n+1=>by have:=wpow_pos n;rw [wpow_succ];omega
theorem wpow_add(m n:Nat):wpow (m+n)=wpow m*wpow n:=by
  induction m with
  | zero=>simp [wpow]
  | succ m ih=>rw [show m+1+n=(m+n)+1 from by omega,wpow_succ,wpow_succ,ih];grind
theorem wpow_eq(n:Nat):wpow n=2^(64*n):=by
  induction n with
  | zero=>rfl
  | succ n ih=>rw [wpow_succ,ih,show 64*(n+1)=64*n+64 from by omega,Int.pow_add];grind
theorem val_append(xs ys:List Int):val (xs ++ ys)=val xs+wpow xs.length*val ys:=by
  induction xs with
  | nil=>simp [val,wpow]
  | cons x xs ih=>rw [List.cons_append,val_cons,val_cons,ih,List.length_cons,wpow_succ];grind
theorem val_zeros(n:Nat):val (List.replicate n 0)=0:=by
  induction n with
  | zero=>rfl
  | succ n ih=>rw [List.replicate_succ,val_cons,ih];simp
theorem val_lt:∀ {xs:List Int},Words xs→val xs<wpow xs.length
  | [],_=>by simp [val,wpow]
  | x :: xs,h=>by
    have h1:=h.head.2
    have h2:=val_lt h.tail
    rw [val_cons,List.length_cons,wpow_succ];omega
theorem val_take_succ(xs:List Int)(k:Nat)(hk:k<xs.length):val (xs.take (k+1))=val (xs.take k)+wpow k*nth xs k:=by
  rw [List.take_succ_eq_append_getElem hk,val_append,List.length_take,Nat.min_eq_left (by omega)]
  rw [nth_lt hk];simp [val]
theorem val_take_all(xs:List Int)(k:Nat)(hk:xs.length≤k):val (xs.take k)=val xs:=by rw [List.take_of_length_le hk]
theorem val_take_more(xs:List Int)(k:Nat):val (xs.take (k+1))=val (xs.take k)+wpow k*nth xs k:=by
  by_cases hk:k<xs.length
  · exact val_take_succ xs k hk
  · rw [val_take_all _ _ (by omega),val_take_all _ _ (by omega),nth_ge (by omega)];simp
theorem val_split(xs:List Int)(k:Nat)(hk:k≤xs.length):val xs=val (xs.take k)+wpow k*val (xs.drop k):=by
  have h:=val_append (xs.take k) (xs.drop k)
  rw [List.take_append_drop,List.length_take,Nat.min_eq_left hk] at h
  exact h
theorem val_set(xs:List Int)(k:Nat)(x:Int)(hk:k<xs.length):val (xs.set k x)=val xs+wpow k*(x-nth xs k):=by
  induction xs generalizing k with
  | nil=>simp at hk
  | cons y ys ih =>
    cases k with
    | zero=>rw [List.set_cons_zero,val_cons,val_cons,nth_cons_zero,wpow_zero];omega
    | succ k =>
      have:=ih k (by simpa using hk)
      rw [List.set_cons_succ,val_cons,val_cons,this,wpow_succ]
      rw [nth_cons_succ];grind
def ws(n:Int):List Int:=if 0<n then (n % 18446744073709551616) :: ws (n/18446744073709551616) else []
termination_by n.toNat
decreasing_by omega
theorem ws_nonpos{n:Int}(h:n≤0):ws n = []:=by unfold ws;rw [if_neg (by omega)]
theorem ws_pos{n:Int}(h:0<n):ws n=(n % 18446744073709551616) :: ws (n/18446744073709551616):=by rw [ws,if_pos h]
theorem ws_zero:ws 0 = []:=ws_nonpos (by omega)
theorem words_ws(n:Int):Words (ws n):=by
  by_cases h:0<n
  · rw [ws_pos h];exact (words_ws (n/18446744073709551616)).cons ⟨by omega,by omega⟩
  · rw [ws_nonpos (by omega)];exact Words.nil
termination_by n.toNat
decreasing_by omega
theorem val_ws{n:Int}(h0:0≤n):val (ws n)=n:=by
  by_cases h:0<n
  · rw [ws_pos h,val_cons,val_ws (n:=n/18446744073709551616) (by omega)];omega
  · rw [ws_nonpos (by omega),val_nil];omega
termination_by n.toNat
decreasing_by omega
theorem ws_cons{x:Int}{xs:List Int}(hx:Word x)(hs:0≤val xs)(h:0<x∨0<val xs):ws (val (x :: xs))=x :: ws (val xs):=by
  have h1:=hx.1;have h2:=hx.2
  rw [val_cons,ws_pos (by omega)]
  congr 1
  · omega
  · congr 1;omega
def trimTo(xs:List Int):Nat→Nat
  | 0=>0
  | n+1=>if nth xs n=0 then trimTo xs n else n+1
theorem trimTo_le(xs:List Int):∀ n,trimTo xs n≤n
  | 0=>Nat.le_refl _
  | n+1=>by
    have:=trimTo_le xs n
    unfold trimTo;split<;>omega
theorem trimTo_val(xs:List Int):∀ n,val (xs.take (trimTo xs n))=val (xs.take n)
  | 0=>rfl
  | n+1=>by
    unfold trimTo
    split
    · rename_i h
      rw [trimTo_val xs n,val_take_more,h];simp
    · rfl
theorem trimTo_last(xs:List Int):∀ n,0<trimTo xs n→nth xs (trimTo xs n-1)≠0
  | 0=>by simp [trimTo]
  | n+1=>by
    unfold trimTo
    split
    · exact trimTo_last xs n
    · intro _;rw [Nat.add_sub_cancel];assumption
theorem ws_of_last:∀ {xs:List Int},Words xs→(0<xs.length→nth xs (xs.length-1)≠0)→ws (val xs)=xs
  | [],_,_=>by rw [val_nil,ws_zero]
  | x :: xs,h,hl=>by
    have h0:=val_nonneg h.tail
    by_cases hx:xs = []
    · subst hx
      have:x≠0:=by simpa [nth] using hl
      have:=h.head.1
      rw [ws_cons h.head (by simp [val]) (.inl (by omega)),val_nil,ws_zero]
    · have hp:0<xs.length:=List.length_pos_iff.2 hx
      have hl':0<xs.length→nth xs (xs.length-1)≠0:=fun _=>by
        have:=hl (by simp)
        simp only [List.length_cons,Nat.add_sub_cancel] at this
        rw [show xs.length=(xs.length-1)+1 from by omega,nth_cons_succ] at this
        exact this
      have ih:=ws_of_last h.tail hl'
      have hv:0<val xs:=by
        by_cases hv:0<val xs
        · exact hv
        · rw [ws_nonpos (by omega)] at ih;exact absurd ih.symm hx
      rw [ws_cons h.head h0 (.inr hv),ih]
theorem take_trimTo{xs:List Int}(h:Words xs):xs.take (trimTo xs xs.length)=ws (val xs):=by
  have hle:=trimTo_le xs xs.length
  have hv:=trimTo_val xs xs.length
  rw [List.take_length] at hv
  rw [←hv]
  refine (ws_of_last (h.take _) (fun hp=>?_)).symm
  have hlen:(xs.take (trimTo xs xs.length)).length=trimTo xs xs.length:=by rw [List.length_take];omega
  rw [hlen] at hp ⊢
  have:=trimTo_last xs xs.length hp
  rw [nth_take (by omega)]
  exact this
theorem trimTo_length{xs:List Int}(h:Words xs):trimTo xs xs.length=(ws (val xs)).length:=by
  rw [←take_trimTo h,List.length_take]
  have:=trimTo_le xs xs.length
  omega
theorem ws_length_le{n:Int}{k:Nat}(h:n<wpow k):(ws n).length≤k:=by
  by_cases hn:0<n
  · cases k with
    | zero=>rw [wpow_zero] at h;omega
    | succ k =>
      rw [ws_pos hn,List.length_cons]
      have:(ws (n/18446744073709551616)).length≤k:=ws_length_le (by rw [wpow_succ] at h;omega)
      omega
  · rw [ws_nonpos (by omega)];simp
termination_by k
theorem ws_length_of{xs:List Int}(h:Words xs):(ws (val xs)).length≤xs.length:=ws_length_le (val_lt h)
theorem lt_wpow_ws{n:Int}(h:0≤n):n<wpow (ws n).length:=by
  have:=val_lt (words_ws n)
  rwa [val_ws h] at this
theorem ws_eq_nil{n:Int}(h:0≤n):ws n = []↔n=0:=by
  constructor
  · intro e
    have:=val_ws h
    rw [e,val_nil] at this;exact this.symm
  · rintro rfl;exact ws_zero
theorem ws_len_pos{n:Int}(h:0<n):0<(ws n).length:=by rw [ws_pos h];simp
theorem wpow_le{m n:Nat}(h:m≤n):wpow m≤wpow n:=by
  obtain ⟨k,rfl⟩:=Nat.exists_eq_add_of_le h
  rw [wpow_add]
  have h1:=wpow_pos m
  have h2:=wpow_pos k
  have h3:=imL (show 1≤wpow k by omega) (show 0≤wpow m by omega)
  omega
theorem ws_last_ne{n:Int}(h:0<n):nth (ws n) ((ws n).length-1)≠0:=by
  by_cases hq:0<n/18446744073709551616
  · have ih:=ws_last_ne hq
    have hp:=ws_len_pos hq
    rw [ws_pos h,List.length_cons,Nat.add_sub_cancel]
    rw [show (ws (n/18446744073709551616)).length=((ws (n/18446744073709551616)).length-1)+1 from by omega,nth_cons_succ]
    exact ih
  · rw [ws_pos h,ws_nonpos (by omega)]
    simp only [List.length_cons,List.length_nil,Nat.zero_add,Nat.sub_self,nth_cons_zero]
    omega
termination_by n.toNat
decreasing_by omega
end Go.Proofs.YtgeihpalcagpfaaGreatDoor
namespace Go.Proofs.YtgeihpalcagpfaaGreatDoor
open Go.RowKit
def TabA(w:World):Prop:=∀ j,j<64→w.cell? ⟨0,j,none⟩=some (.int .u8 (Lib.deBruijn64tab.getD j 0))
theorem TabA.below{w w':World}(h:TabA w)(hb:Below w.heap.size w w'):TabA w':=fun j hj =>
  (hb.cell (p:=⟨_,j,none⟩) (World.block_lt_of_cell? w _ (h j hj))).trans (h j hj)
def TabT(_:World):Prop:=True
def GlLt(_:Nat):Prop:=True
theorem TabT.below{w w':World}(_:TabT w)(_:Below w.heap.size w w'):TabT w':=trivial
theorem TabT.lt{w:World}(_:TabT w):GlLt w.heap.size:=trivial
theorem GlLt.mono{k m:Nat}(_:GlLt k)(_:k≤m):GlLt m:=trivial
def Tab(w:World):Prop:=TabA w∧TabT w
theorem Tab.below{w w':World}(h:Tab w)(hb:Below w.heap.size w w'):Tab w':=⟨h.1.below hb,h.2.below hb⟩
def NatAt(base:Nat)(w:World)(v:Value)(xs:List Int):Prop :=
  ∃ A c,v = .slice A xs.length c∧xs.length≤c∧(c≤9223372036854775807∧xs.length≤17592186044415)∧Words xs∧(A=none→c=0) ∧
    (0<xs.length→∃ g o,A=some ⟨g,o,none⟩∧base≤g∧g<w.heap.size∧∀ j,j<xs.length→w.cell? ⟨g,o+j,none⟩=some (.int .u64 (nth xs j)))
theorem NatAt.mono{B B':Nat}{w:World}{v:Value}{xs:List Int}(h:NatAt B w v xs)(hB:B'≤B):NatAt B' w v xs:=by
  obtain ⟨A,c,e,h1,h2,h3,h5,h4⟩:=h
  exact ⟨A,c,e,h1,h2,h3,h5,fun hp=>by obtain ⟨g,o,e,hb,r⟩:=h4 hp;exact ⟨g,o,e,Nat.le_trans hB hb,r⟩⟩
theorem NatAt.words{B:Nat}{w:World}{v:Value}{xs:List Int}(h:NatAt B w v xs):Words xs:=by
  obtain ⟨A,c,e,h1,h2,h3,h5,h4⟩:=h
  exact h3
theorem NatAt.len{B:Nat}{w:World}{v:Value}{xs:List Int}(h:NatAt B w v xs):xs.length≤17592186044415:=by
  obtain ⟨A,c,e,h1,h2,h3,h5,h4⟩:=h
  exact h2.2
theorem NatAt.below{B:Nat}{w w':World}{v:Value}{xs:List Int}(h:NatAt B w v xs)(hb:Below w.heap.size w w'):NatAt B w' v xs:=by
  obtain ⟨A,c,e,h1,h2,h3,h5,h4⟩:=h
  refine ⟨A,c,e,h1,h2,h3,h5,fun hp=>?_⟩
  obtain ⟨g,o,e,hB,hg,hc⟩:=h4 hp
  exact ⟨g,o,e,hB,Nat.lt_of_lt_of_le hg hb.size,fun j hj=>(hb.cell (p:=⟨g,o+j,none⟩) hg).trans (hc j hj)⟩
theorem NatAt.nil(B:Nat)(w:World):NatAt B w (.slice none 0 0) []:=⟨none,0,rfl,Nat.le_refl _,⟨by omega,by simp⟩,Words.nil,fun _=>rfl,fun h=>absurd h (by simp)⟩
theorem NatAt.parts{B:Nat}{w:World}{v:Value}{xs:List Int}(h:NatAt B w v xs) :
    (xs = []∧∃ A c,v = .slice A 0 c∧c≤9223372036854775807) ∨
    (0<xs.length∧∃ g o c,v = .slice (some ⟨g,o,none⟩) xs.length c∧xs.length≤c∧c≤9223372036854775807∧xs.length≤17592186044415∧B≤g∧g<w.heap.size∧∀ j,j<xs.length→w.cell? ⟨g,o+j,none⟩=some (.int .u64 (nth xs j))):=by
  obtain ⟨A,c,rfl,h1,h2,h3,h5,h4⟩:=h
  by_cases hp:0<xs.length
  · obtain ⟨g,o,rfl,r⟩:=h4 hp
    exact .inr ⟨hp,g,o,c,rfl,h1,h2.1,h2.2,r⟩
  · obtain rfl:xs = []:=List.eq_nil_of_length_eq_zero (by omega)
    exact .inl ⟨rfl,A,c,rfl,h2.1⟩
theorem NatAt.open0{B:Nat}{w:World}{v:Value}{xs:List Int}(h:NatAt B w v xs)(hx:xs = []):∃ A c,v = .slice A 0 c∧c≤9223372036854775807:=by
  obtain ⟨A,c,rfl,h1,h2,h3,h5,h4⟩:=h
  subst hx
  exact ⟨A,c,rfl,h2.1⟩
theorem NatAt.open0'{B:Nat}{w:World}{v:Value}{xs:List Int}(h:NatAt B w v xs)(hx:xs = []):v = .slice none 0 0∨∃ a c,v = .slice (some a) 0 c:=by
  obtain ⟨A,c,rfl,h1,h2,h3,h5,h4⟩:=h
  subst hx
  cases A with
  | none=>exact .inl (by rw [h5 rfl];rfl)
  | some a=>exact .inr ⟨a,c,rfl⟩
theorem NatAt.open1{B:Nat}{w:World}{v:Value}{xs:List Int}(h:NatAt B w v xs)(hx:0<xs.length) :
    ∃ g o m c,v = .slice (some ⟨g,o,none⟩) (m+1) c∧Hid (xs.length=m+1)∧m+1≤c∧c≤9223372036854775807∧m+1≤17592186044415∧B≤g∧g<w.heap.size∧∀ j,j<m+1→w.cell? ⟨g,o+j,none⟩=some (.int .u64 (nth xs j)):=by
  obtain ⟨A,c,rfl,h1,h2,h3,h5,h4⟩:=h
  obtain ⟨g,o,rfl,r⟩:=h4 hx
  obtain ⟨m,hm⟩:∃ m,xs.length=m+1:=⟨xs.length-1,by omega⟩
  refine ⟨g,o,m,c,by rw [hm],hm,by omega,h2.1,by omega,?_⟩
  rw [←hm];exact r
theorem NatAt.open{B:Nat}{w:World}{v:Value}{xs:List Int}(h:NatAt B w v xs) :
    ∃ A L c,v = .slice A L c∧Hid (xs.length=L)∧L≤c∧c≤9223372036854775807:=by
  obtain ⟨A,c,rfl,h1,h2,h3,h5,h4⟩:=h
  exact ⟨A,_,c,rfl,rfl,h1,h2.1⟩
theorem ws_pos_of{n:Int}(h:0<(ws n).length):0<n:=by
  by_cases h0:0<n
  · exact h0
  · rw [ws_nonpos (by omega)] at h;exact absurd h (by simp)
theorem bcell{W w1:World}(hb:Below W.heap.size W w1):(∀ b o,b<W.heap.size→w1.cell? ⟨b,o,none⟩=W.cell? ⟨b,o,none⟩)∧(∀ b o,b<W.heap.size→w1.frozen? ⟨b,o,none⟩=W.frozen? ⟨b,o,none⟩) :=
  ⟨fun b o h=>hb.cell (p:=⟨b,o,none⟩) h,fun b o h=>hb.frozen (p:=⟨b,o,none⟩) h⟩
theorem below_draws{B:Nat}{a w:World}(h:Below B a w)(n:Nat):Below B a (w.drewN n):=⟨h.os,h.tape,h.output,h.size,h.block⟩
theorem below_then{w w1 w2:World}(h:Below w.heap.size w w1)(k:Below w1.heap.size w1 w2):Below w.heap.size w w2:=h.trans (k.mono h.size)
theorem below_also(w:World)(o:Obj):Below w.heap.size w (w.alloc o):=(Below.refl _ _).alloc (Nat.le_refl _) o
theorem below_plus{w W:World}(h:Below w.heap.size w W)(o:Obj):Below w.heap.size w (W.alloc o):=h.alloc h.size o
def RNat(w:World)(xs:List Int)(e:Ending)(w':World):Prop:=∃ v,e = .returned v∧NatAt w.heap.size w' v xs∧Below w.heap.size w w'
def RVal(w:World)(v:Value)(e:Ending)(w':World):Prop:=e = .returned v∧Below w.heap.size w w'
end Go.Proofs.YtgeihpalcagpfaaGreatDoor
namespace Go.Proofs.YtgeihpalcagpfaaGreatDoor
def blen(n:Int):Nat:=if 0<n then Nat.log2 n.toNat+1 else 0
theorem blen_nonpos{n:Int}(h:n≤0):blen n=0:=by unfold blen;rw [if_neg (by omega)]
theorem two_pow_pos(k:Nat):(0:Int)<2^k:=Int.pow_pos (by omega)
theorem two_pow_cast(k:Nat):((2^k:Nat):Int)=(2:Int)^k:=by simp
theorem two_pow_le{j k:Nat}(h:j≤k):(2:Int)^j≤2^k:=by
  rw [←two_pow_cast,←two_pow_cast];exact_mod_cast Nat.pow_le_pow_right (by omega) h
theorem two_pow_lt{j k:Nat}(h:j<k):(2:Int)^j<2^k:=by
  rw [←two_pow_cast,←two_pow_cast];exact_mod_cast Nat.pow_lt_pow_right (by omega) h
theorem blen_lt(n:Int):n<2^blen n:=by
  unfold blen
  split
  · have h:=Nat.lt_log2_self (n:=n.toNat)
    have h2:((n.toNat:Nat):Int)<((2^(n.toNat.log2+1):Nat):Int):=by exact_mod_cast h
    rw [two_pow_cast] at h2;omega
  · simp;omega
theorem blen_ge{n:Int}(h:0<n):2^(blen n-1)≤n:=by
  unfold blen
  rw [if_pos h]
  have h1:=Nat.log2_self_le (n:=n.toNat) (by omega)
  have h2:((2^n.toNat.log2:Nat):Int)≤((n.toNat:Nat):Int):=by exact_mod_cast h1
  rw [two_pow_cast] at h2
  rw [Nat.add_sub_cancel];omega
theorem blen_pos{n:Int}(h:0<n):0<blen n:=by unfold blen;rw [if_pos h];omega
theorem blen_le{n:Int}{k:Nat}(h:n<2^k):blen n≤k:=by
  by_cases h0:0<n
  · have h1:=blen_ge h0
    have h2:=blen_pos h0
    by_cases hk:blen n≤k
    · exact hk
    · have:=two_pow_le (j:=k) (k:=blen n-1) (by omega);omega
  · rw [blen_nonpos (by omega)];omega
theorem blen_gt{n:Int}{k:Nat}(h:2^k≤n):k<blen n:=by
  by_cases hk:k<blen n
  · exact hk
  · have h1:=blen_lt n
    have:=two_pow_le (j:=blen n) (k:=k) (by omega);omega
theorem blen_eq{n:Int}{k:Nat}(h1:2^k≤n)(h2:n<2^(k+1)):blen n=k+1:=by
  have:=blen_gt h1;have:=blen_le h2;omega
theorem blen_zero_iff{n:Int}(h:0≤n):blen n=0↔n=0:=by
  constructor
  · intro e;by_cases h0:0<n
    · have:=blen_pos h0;omega
    · omega
  · rintro rfl;rfl
theorem blen_half{n:Int}(h:0<n):blen n=blen (n/2)+1:=by
  by_cases h2:2≤n
  · have a1:=blen_ge (n:=n/2) (by omega)
    have a2:=blen_lt (n/2)
    have a3:=blen_pos (n:=n/2) (by omega)
    refine blen_eq ?_ ?_
    · obtain ⟨k,hk⟩:∃ k,blen (n/2)=k+1:=⟨blen (n/2)-1,by omega⟩
      rw [hk] at a1 ⊢;rw [Nat.add_sub_cancel] at a1;rw [Int.pow_succ];omega
    · rw [Int.pow_succ];omega
  · obtain rfl:n=1:=by omega
    rfl
theorem blen_mul_pow{n:Int}(h:0<n)(k:Nat):blen (n*2^k)=blen n+k:=by
  have a1:=blen_ge h
  have a2:=blen_lt n
  have a3:=blen_pos h
  obtain ⟨j,hj⟩:∃ j,blen n=j+1:=⟨blen n-1,by omega⟩
  rw [hj] at a1 a2 ⊢;rw [Nat.add_sub_cancel] at a1
  rw [show j+1+k=(j+k)+1 from by omega]
  have p:=two_pow_pos k
  refine blen_eq ?_ ?_
  · rw [Int.pow_add];exact imR a1 (by omega)
  · rw [show j+k+1=(j+1)+k from by omega,Int.pow_add];exact Int.mul_lt_mul_of_pos_right a2 p
theorem blen_mono{m n:Int}(h:m≤n):blen m≤blen n:=blen_le (by have:=blen_lt n;omega)
def tzn(n:Nat):Nat:=if n=0 then 0 else if n % 2=1 then 0 else tzn (n/2)+1
termination_by n
decreasing_by omega
def tz(n:Int):Nat:=tzn n.toNat
theorem tzn_spec(n:Nat)(h:n≠0):∃ m,n=2^tzn n*(2*m+1):=by
  unfold tzn
  rw [if_neg h]
  split
  · exact ⟨n/2,by simp;omega⟩
  · obtain ⟨m,hm⟩:=tzn_spec (n/2) (by omega)
    refine ⟨m,?_⟩
    rw [Nat.pow_succ,Nat.mul_comm (2^_) 2,Nat.mul_assoc,←hm];omega
termination_by n
decreasing_by omega
theorem odd_pow_unique{j k m n:Nat}(h:2^j*(2*m+1)=2^k*(2*n+1)):j=k∧m=n:=by
  induction j generalizing k with
  | zero =>
    cases k with
    | zero=>simp at h;exact ⟨rfl,by omega⟩
    | succ k=>rw [Nat.pow_succ] at h;have:2^k*2*(2*n+1)=2*(2^k*(2*n+1)):=by rw [Nat.mul_comm (2^k) 2,Nat.mul_assoc]
              rw [this] at h;simp at h;omega
  | succ j ih =>
    cases k with
    | zero=>rw [Nat.pow_succ] at h;have:2^j*2*(2*m+1)=2*(2^j*(2*m+1)):=by rw [Nat.mul_comm (2^j) 2,Nat.mul_assoc]
            rw [this] at h;simp at h;omega
    | succ k =>
      have e1:2^(j+1)*(2*m+1)=2*(2^j*(2*m+1)):=by rw [Nat.pow_succ,Nat.mul_comm (2^j) 2,Nat.mul_assoc]
      have e2:2^(k+1)*(2*n+1)=2*(2^k*(2*n+1)):=by rw [Nat.pow_succ,Nat.mul_comm (2^k) 2,Nat.mul_assoc]
      rw [e1,e2] at h
      have:=ih (k:=k) (by omega)
      omega
theorem tz_spec{n:Int}(h:0<n):∃ m:Int,0≤m∧n=2^tz n*(2*m+1):=by
  obtain ⟨n,rfl⟩:=Int.eq_ofNat_of_zero_le (show 0≤n by omega)
  obtain ⟨m,hm⟩:=tzn_spec n (by omega)
  refine ⟨m,by omega,?_⟩
  have e:(n:Int)=((2^tzn n*(2*m+1):Nat):Int):=by rw [←hm]
  conv=>lhs;rw [e]
  simp [tz]
theorem tz_unique{n m:Int}{k:Nat}(hm:0≤m)(h:n=2^k*(2*m+1)):tz n=k:=by
  have p:=two_pow_pos k
  have hn:0<n:=by rw [h];exact Int.mul_pos p (by omega)
  obtain ⟨m',hm',e⟩:=tz_spec hn
  obtain ⟨a,rfl⟩:=Int.eq_ofNat_of_zero_le hm
  obtain ⟨b,rfl⟩:=Int.eq_ofNat_of_zero_le hm'
  have:=e.symm.trans h
  exact (odd_pow_unique (j:=tz n) (k:=k) (m:=b) (n:=a) (by exact_mod_cast this)).1
theorem tz_zero:tz 0=0:=by unfold tz tzn;simp
theorem ctz_word{x:Int}(h0:0<x)(h1:x<18446744073709551616):(Lib.ctz 64 x.toNat)=tz x:=by
  obtain ⟨x,rfl⟩:=Int.eq_ofNat_of_zero_le (show 0≤x by omega)
  rw [Int.toNat_natCast]
  unfold Lib.ctz
  rw [if_neg (by omega)]
  obtain ⟨m,hm,_⟩:=Lib.ctzFrom_spec 64 x (by omega) (by omega)
  refine (tz_unique (m:=m) (by omega) ?_).symm
  have e:(x:Int)=((2^Lib.ctzFrom 64 x*(2*m+1):Nat):Int):=by rw [←hm]
  conv=>lhs;rw [e]
  simp
theorem tz_odd{m:Int}(h:0≤m):tz (2*m+1)=0:=tz_unique h (by simp)
theorem tz_mul_pow{n:Int}(h:0<n)(k:Nat):tz (n*2^k)=tz n+k:=by
  obtain ⟨m,hm,e⟩:=tz_spec h
  refine tz_unique hm ?_
  conv=>lhs;rw [e]
  rw [Int.pow_add];grind
theorem tz_lt_blen{n:Int}(h:0<n):tz n<blen n:=by
  obtain ⟨m,hm,e⟩:=tz_spec h
  refine blen_gt ?_
  have p:=two_pow_pos (tz n)
  conv=>rhs;rw [e]
  have:=imL (show (1:Int)≤2*m+1 by omega) (show 0≤(2:Int)^tz n by omega)
  omega
theorem blen_bitLen{x:Int}(h0:0≤x)(h1:x<18446744073709551616):Lib.bitLen x.toNat=blen x:=by
  have key:∀ (f n:Nat),n<2^f→Lib.bitLenAux f n=blen (n:Int):=by
    intro f
    induction f with
    | zero=>intro n hn;simp at hn;subst hn;rfl
    | succ f ih =>
      intro n hn
      unfold Lib.bitLenAux
      split
      · rename_i h;subst h;rfl
      · rw [ih (n/2) (by rw [Nat.pow_succ] at hn;omega),blen_half (n:=(n:Int)) (by omega),Nat.add_comm];rfl
  obtain ⟨n,rfl⟩:=Int.eq_ofNat_of_zero_le h0
  exact key 64 n (by omega)
end Go.Proofs.YtgeihpalcagpfaaGreatDoor
namespace Go.Proofs.YtgeihpalcagpfaaGreatDoor
open Go.RowKit Go.Shelf
def lo64(s:Int):Int:=s % 18446744073709551616
def hi64(s:Int):Int:=s/18446744073709551616
theorem lo64_word(s:Int):Word (lo64 s):=by unfold lo64;exact ⟨by omega,by omega⟩
theorem lo_hi(s:Int):lo64 s+18446744073709551616*hi64 s=s:=by unfold lo64 hi64;omega
theorem hi64_bit{x y c:Int}(hx:Word x)(hy:Word y)(hc:0≤c∧c≤1):0≤hi64 (x+y+c)∧hi64 (x+y+c)≤1:=by
  have:=hx.1;have:=hx.2;have:=hy.1;have:=hy.2;unfold hi64;omega
theorem hi64_borrow{x y c:Int}(hx:Word x)(hy:Word y)(hc:0≤c∧c≤1):0≤-hi64 (x-y-c)∧-hi64 (x-y-c)≤1:=by
  have:=hx.1;have:=hx.2;have:=hy.1;have:=hy.2;unfold hi64;omega
def sub64Entry:Array Value→Sem Value:=fun args=>do
  let (x, y, b) ← Extern.MathBitsCarry.three "Sub64" args
  pure (Extern.MathBitsCarry.pair ((x+Extern.MathBitsCarry.m64-y-b) % Extern.MathBitsCarry.m64) (if x<y+b then 1 else 0))
theorem run_sub64{P:Program}(x y b:Nat)(hb:b≤1)(w:World) :
    (sub64Entry #[.int .u64 x,.int .u64 y,.int .u64 b]).run P w =
      .ok (.tuple #[.int .u64 (((x+18446744073709551616-y-b) % 18446744073709551616:Nat):Int),.int .u64 ((if x<y+b then 1 else 0:Nat):Int)]) w:=by
  have:b=0∨b=1:=by omega
  rcases this with rfl | rfl<;>rfl
theorem add64_run{x y c:Int}(hx:Word x)(hy:Word y)(hc:0≤c∧c≤1)(w:World) :
    (callFunc 157 #[.int .u64 x,.int .u64 y,.int .u64 c]).run Tryz.prog w =
      .ok (.value (.tuple #[.int .u64 (lo64 (x+y+c)),.int .u64 (hi64 (x+y+c))])) w:=by
  obtain ⟨hx0,hx1⟩:=hx;obtain ⟨hy0,hy1⟩:=hy;obtain ⟨hc0,hc1⟩:=hc
  obtain ⟨x,rfl⟩:=Int.eq_ofNat_of_zero_le hx0
  obtain ⟨y,rfl⟩:=Int.eq_ofNat_of_zero_le hy0
  obtain ⟨c,rfl⟩:=Int.eq_ofNat_of_zero_le hc0
  rw [run_callFunc_extern Tryz.func157 (by kernel_rfl) (by kernel_rfl) (by kernel_rfl) (e:=add64Entry) (by kernel_rfl),run_add64 x y c (by omega) (by omega) (by omega) (by omega)]
  have e1:(((x+y+c) % 18446744073709551616:Nat):Int)=((x:Int)+y+c) % 18446744073709551616:=by omega
  have e2:(((x+y+c)/18446744073709551616:Nat):Int)=((x:Int)+y+c)/18446744073709551616:=by omega
  simp only [Result.andThen,lo64,hi64]
theorem sub64_run{x y c:Int}(hx:Word x)(hy:Word y)(hc:0≤c∧c≤1)(w:World) :
    (callFunc 160 #[.int .u64 x,.int .u64 y,.int .u64 c]).run Tryz.prog w =
      .ok (.value (.tuple #[.int .u64 (lo64 (x-y-c)),.int .u64 (-hi64 (x-y-c))])) w:=by
  obtain ⟨hx0,hx1⟩:=hx;obtain ⟨hy0,hy1⟩:=hy;obtain ⟨hc0,hc1⟩:=hc
  obtain ⟨x,rfl⟩:=Int.eq_ofNat_of_zero_le hx0
  obtain ⟨y,rfl⟩:=Int.eq_ofNat_of_zero_le hy0
  obtain ⟨c,rfl⟩:=Int.eq_ofNat_of_zero_le hc0
  rw [run_callFunc_extern Tryz.func160 (by kernel_rfl) (by kernel_rfl) (by kernel_rfl) (e:=sub64Entry) (by kernel_rfl),run_sub64 x y c (by omega)]
  have e1:(((x+18446744073709551616-y-c) % 18446744073709551616:Nat):Int)=((x:Int)-y-c) % 18446744073709551616:=by omega
  have e2:((if x<y+c then 1 else 0:Nat):Int) = -(((x:Int)-y-c)/18446744073709551616):=by split<;>omega
  simp only [Result.andThen,lo64,hi64]
  rw [e1,e2]
def bl_134_ren:Go.Shelf.Ren:=⟨fun | 134=>158 | 129=>87 | n=>n,fun | 53=>48 | 3=>3 | 4=>4 | 46=>104 | 5=>5 | 9=>9 | n=>n,fun | n=>n⟩
theorem bl_134:Go.Proofs.Lays.n134 Tryz.prog bl_134_ren:={
  mixed:=by kernel_rfl
  f129:=Tryz.func87.trans (congrArg some (by kernel_rfl))
  f134:=Tryz.func158.trans (congrArg some (by kernel_rfl))
  t3:=Tryz.underlying3
  a3:=Tryz.isAgg3
  z3:=Tryz.sizeOf3
  v3:=Tryz.zeroValue3
  t4:=Tryz.underlying4
  a4:=Tryz.isAgg4
  z4:=Tryz.sizeOf4
  v4:=Tryz.zeroValue4
  t5:=Tryz.underlying5
  a5:=Tryz.isAgg5
  z5:=Tryz.sizeOf5
  v5:=Tryz.zeroValue5
  t9:=Tryz.underlying9
  a9:=Tryz.isAgg9
  z9:=Tryz.sizeOf9
  v9:=Tryz.zeroValue9
  t46:=Tryz.underlying104
  a46:=Tryz.isAgg104
  z46:=Tryz.sizeOf104
  v46:=Tryz.zeroValue104
  t53:=Tryz.underlying48
  a53:=Tryz.isAgg48
  z53:=Tryz.sizeOf48
  v53:=Tryz.zeroValue48 }
theorem bits_LeadingZeros64(x:Int)(w:World)(h0:0≤x)(h1:x≤18446744073709551615) :
    Calls Tryz.prog 158 #[.int .u64 x] w fun e w'=>e = .returned (.int .i64 (64-(Lib.bitLen x.toNat:Int)))∧w'=w:=Any.bits_LeadingZeros64 bl_134 x w h0 h1
def bl_129_ren:Go.Shelf.Ren:=⟨fun | 129=>87 | n=>n,fun | 53=>48 | 3=>3 | 4=>4 | 46=>104 | 5=>5 | 9=>9 | n=>n,fun | n=>n⟩
theorem bl_129:Go.Proofs.Lays.n129 Tryz.prog bl_129_ren:={
  mixed:=by kernel_rfl
  f129:=Tryz.func87.trans (congrArg some (by kernel_rfl))
  t3:=Tryz.underlying3
  a3:=Tryz.isAgg3
  z3:=Tryz.sizeOf3
  v3:=Tryz.zeroValue3
  t4:=Tryz.underlying4
  a4:=Tryz.isAgg4
  z4:=Tryz.sizeOf4
  v4:=Tryz.zeroValue4
  t5:=Tryz.underlying5
  a5:=Tryz.isAgg5
  z5:=Tryz.sizeOf5
  v5:=Tryz.zeroValue5
  t9:=Tryz.underlying9
  a9:=Tryz.isAgg9
  z9:=Tryz.sizeOf9
  v9:=Tryz.zeroValue9
  t46:=Tryz.underlying104
  a46:=Tryz.isAgg104
  z46:=Tryz.sizeOf104
  v46:=Tryz.zeroValue104
  t53:=Tryz.underlying48
  a53:=Tryz.isAgg48
  z53:=Tryz.sizeOf48
  v53:=Tryz.zeroValue48 }
theorem bits_Len64(x:Int)(w:World)(h0:0≤x)(h1:x≤18446744073709551615) :
    Calls Tryz.prog 87 #[.int .u64 x] w fun e w'=>e = .returned (.int .i64 (Lib.bitLen x.toNat))∧w'=w:=Any.bits_Len64 bl_129 x w h0 h1
def bl_264_ren:Go.Shelf.Ren:=⟨fun | 264=>161 | n=>n,fun | 53=>48 | 46=>104 | n=>n,fun | n=>n⟩
theorem bl_264:Go.Proofs.Lays.n264 Tryz.prog bl_264_ren:={
  mixed:=by kernel_rfl
  f264:=Tryz.func161.trans (congrArg some (by kernel_rfl))
  t46:=Tryz.underlying104
  a46:=Tryz.isAgg104
  z46:=Tryz.sizeOf104
  v46:=Tryz.zeroValue104
  t53:=Tryz.underlying48
  a53:=Tryz.isAgg48
  z53:=Tryz.sizeOf48
  v53:=Tryz.zeroValue48 }
open Go.RowKit Go.Lib in
theorem bits_Mul64(x y:Nat)(hx:x<18446744073709551616)(hy:y<18446744073709551616)(w:World) :
    Calls Tryz.prog 161 #[.int .u64 x,.int .u64 y] w fun e w'=>e = .returned (.tuple #[.int .u64 ((x*y/18446744073709551616:Nat):Int),.int .u64 ((x*y % 18446744073709551616:Nat):Int)])∧w'=w:=Any.bits_Mul64 bl_264 x y hx hy w
theorem len64_calls(x:Int)(w:World)(hx:Word x) :
    Calls Tryz.prog 87 #[.int .u64 x] w fun e w'=>e = .returned (.int .i64 (blen x))∧w=w' :=
  (bits_Len64 x w hx.1 (by have:=hx.2;omega)).mono fun e w' h=>⟨by rw [h.1,blen_bitLen hx.1 hx.2],h.2.symm⟩
theorem lead64_calls(x:Int)(w:World)(hx:Word x) :
    Calls Tryz.prog 158 #[.int .u64 x] w fun e w'=>e = .returned (.int .i64 (64-(blen x:Int)))∧w=w' :=
  (bits_LeadingZeros64 x w hx.1 (by have:=hx.2;omega)).mono fun e w' h=>⟨by rw [h.1,blen_bitLen hx.1 hx.2],h.2.symm⟩
theorem mul64_calls(x y:Int)(w:World)(hx:Word x)(hy:Word y) :
    Calls Tryz.prog 161 #[.int .u64 x,.int .u64 y] w fun e w'=>e = .returned (.tuple #[.int .u64 (hi64 (x*y)),.int .u64 (lo64 (x*y))])∧w=w':=by
  obtain ⟨hx0,hx1⟩:=hx;obtain ⟨hy0,hy1⟩:=hy
  obtain ⟨x,rfl⟩:=Int.eq_ofNat_of_zero_le hx0
  obtain ⟨y,rfl⟩:=Int.eq_ofNat_of_zero_le hy0
  refine (bits_Mul64 x y (by omega) (by omega) w).mono fun e w' h=>⟨?_,h.2.symm⟩
  rw [h.1];simp [hi64,lo64]
theorem tz64_key(x a:Nat)(hx:x<18446744073709551616)(hx0:x≠0)(hlow:x &&& (18446744073709551616-x)=a) :
    IntKind.u64.wrap (bits BinOp.and IntKind.u64 (x:Int) (IntKind.u64.wrap (-(x:Int)))*285870213051353865)/288230376151711744=((a*285870213051353865 % 18446744073709551616/288230376151711744:Nat):Int):=by
  have e1:IntKind.u64.wrap (-(x:Int))=((18446744073709551616-x:Nat):Int):=by rw [IntKind.wrap_u64];omega
  rw [e1,bits_and_u64_nat x _ hx (by omega),hlow,IntKind.wrap_u64]
  omega
set_option maxHeartbeats 1000000 in
theorem tz64_core(x k idx:Nat)(w:World)(hx0:((x:Int) == 0)=false)
    (key:IntKind.u64.wrap (bits BinOp.and IntKind.u64 (x:Int) (IntKind.u64.wrap (-(x:Int)))*285870213051353865)/288230376151711744=(idx:Int))
    (hi:idx<64) (hk:k<64) (hcell:w.cell? ⟨0,idx,none⟩=some (.int .u8 k)) :
    Calls Tryz.prog 133 #[.int .u64 x] w fun e w'=>e = .returned (.int .i64 k)∧w=w':=by
  go_enter Tryz.func133,Tryz.ntmps133
  go_wp2_with (simp only [key])
  go_ret
  exact ⟨rfl,rfl⟩
theorem tz64_calls(x:Int)(w:World)(hT:Tab w)(hx:Word x)(hx0:x≠0) :
    Calls Tryz.prog 133 #[.int .u64 x] w fun e w'=>e = .returned (.int .i64 (tz x))∧w=w':=by
  obtain ⟨hx0',hx1⟩:=hx
  rw [←ctz_word (by omega) hx1]
  obtain ⟨x,rfl⟩:=Int.eq_ofNat_of_zero_le hx0'
  rw [Int.toNat_natCast]
  obtain ⟨hlow,hk⟩:=Lib.lowest_bit 64 x (by omega) (by omega)
  obtain ⟨hi,htab⟩:=Lib.deBruijn64_at _ hk
  have hcell:=hT.1 _ hi
  rw [htab] at hcell
  exact tz64_core x _ _ w (by simp;omega) (tz64_key x _ (by omega) (by omega) hlow) hi hk hcell
set_option maxHeartbeats 400000 in
theorem trim_core(g o c:Nat)(xs:List Int)(w:World)(hc:xs.length≤c)(_:c≤9223372036854775807)(hlen0:xs.length≤17592186044415)
    (hcell:∀ j,j<xs.length→w.cell? ⟨g,o+j,none⟩=some (.int .u64 (nth xs j))) :
    Calls Tryz.prog 48 #[.slice (some ⟨g,o,none⟩) xs.length c] w fun e w' =>
      e = .returned (.slice (some ⟨g,o,none⟩) (trimTo xs xs.length) (trimTo xs xs.length))∧w=w':=by
  go_enter Tryz.func48,Tryz.ntmps48
  go_wp2
  go_loop [3] (fun i=>∃ k:Nat,k≤xs.length∧i = .int .i64 k∧Hid (trimTo xs xs.length=trimTo xs k)) (fun i=>(intOf i).toNat)
  case atStart=>exact ⟨xs.length,Nat.le_refl _,rfl,rfl⟩
  case round =>
    obtain ⟨k,hk,rfl,hr⟩:=hrel
    by_cases h0:0<k
    · obtain ⟨m,rfl⟩:∃ m,k=m+1:=⟨k-1,by omega⟩
      have hcm:=hcell m (by omega)
      by_cases hz:nth xs m=0
      · have hb:(nth xs m == 0)=true:=by simpa using hz
        have hr':Hid (trimTo xs xs.length=trimTo xs m):=by show _=_;rw [hr.out,trimTo,if_pos hz]
        have HZ:=Lib.hid hz;clear hz hr
        go_wp2
        go_round
        case rel=>exact ⟨m,by omega,rfl,hr'⟩
        case measure=>simp [intOf]
      · have hb:(nth xs m == 0)=false:=by simpa using hz
        have hr':Hid (trimTo xs xs.length=m+1):=by show _=_;rw [hr.out,trimTo,if_neg hz]
        clear hz hr
        go_wp2
        go_ret
        rw [hr'.out]
        exact ⟨rfl,rfl⟩
    · obtain rfl:k=0:=by omega
      go_wp2
      go_ret
      rw [hr.out]
      exact ⟨rfl,rfl⟩
set_option maxHeartbeats 400000 in
theorem trim_empty(A:Option Addr)(c:Nat)(w:World)(_:c≤9223372036854775807) :
    Calls Tryz.prog 48 #[.slice A 0 c] w fun e w'=>(∃ A',e = .returned (.slice A' 0 0))∧w=w':=by
  go_enter Tryz.func48,Tryz.ntmps48
  go_wp2
  go_loop [3] (fun i=>i = .int .i64 0) (fun i=>0)
  case atStart=>rfl
  case round =>
    obtain rfl:=hrel
    go_wp2
    all_goals go_ret
    all_goals exact ⟨⟨_,rfl⟩,rfl⟩
def RTrim(B:Nat)(w:World)(xs:List Int)(e:Ending)(w':World):Prop:=∃ v,e = .returned v∧NatAt B w v (ws (val xs))∧w=w'
theorem trim_calls{B:Nat}{w:World}{v:Value}{xs:List Int}(h:NatAt B w v xs):Calls Tryz.prog 48 #[v] w (RTrim B w xs):=by
  have hw:=h.words
  rcases h.parts with ⟨rfl,A,c,rfl,hc⟩|⟨hp,g,o,c,rfl,hc,hcap,hlen0,hB,hg,hcell⟩
  · refine (trim_empty A c w hc).mono ?_
    rintro e w' ⟨⟨A',rfl⟩,rfl⟩
    refine ⟨_,rfl,?_,rfl⟩
    rw [val_nil,ws_zero]
    exact ⟨A',0,rfl,Nat.le_refl _,⟨by omega,by simp⟩,Words.nil,fun _=>rfl,fun h=>absurd h (by simp)⟩
  · refine (trim_core g o c xs w hc hcap hlen0 hcell).mono ?_
    rintro e w' ⟨rfl,rfl⟩
    have hl:=trimTo_length hw
    have ht:=take_trimTo hw
    have hle:=trimTo_le xs xs.length
    refine ⟨_,rfl,⟨some ⟨g,o,none⟩,trimTo xs xs.length,by rw [←hl],by omega,⟨by omega,by omega⟩,words_ws _,by simp,fun _=>⟨g,o,rfl,hB,hg,fun j hj=>?_⟩⟩,rfl⟩
    rw [hcell j (by omega),←ht,nth_take (by omega)]
set_option maxHeartbeats 400000 in
theorem of_calls(x:Int)(w:World)(hx:Word x):Calls Tryz.prog 119 #[.int .u64 x] w (RNat w (ws x)):=by
  obtain ⟨h0,h1⟩:=hx
  by_cases hz:x=0
  · subst hz
    go_enter Tryz.func119,Tryz.ntmps119
    go_wp2
    go_ret
    exact ⟨_,rfl,by rw [ws_zero];exact NatAt.nil _ _,Below.refl _ _⟩
  · have hb:(x == 0)=false:=by simpa using hz
    have e:Hid (ws x = [x]):=by
      show ws x = [x]
      have:=ws_cons (x:=x) (xs:=[]) ⟨h0,h1⟩ (by simp [val]) (.inl (by omega))
      simpa [val,ws_zero] using this
    have HX:Hid (Word x):=⟨h0,h1⟩
    clear hz h1
    go_enter Tryz.func119,Tryz.ntmps119
    go_wp2
    go_ret
    refine ⟨_,rfl,?_,below_also _ _⟩
    rw [e.out]
    refine ⟨_,1,rfl,by simp,⟨by omega,by simp⟩,Words.nil.cons HX.out,by simp,fun _=>⟨w.heap.size,0,rfl,Nat.le_refl _,by simp,fun j hj=>?_⟩⟩
    obtain rfl:j=0:=by simpa using hj
    go_simp
    rfl
theorem blen_last{n:Int}(h:0<n):blen n=64*((ws n).length-1)+blen (nth (ws n) ((ws n).length-1)):=by
  by_cases hq:0<n/18446744073709551616
  · have ih:=blen_last hq
    have hp:=ws_len_pos hq
    have e:blen n=blen (n/18446744073709551616)+64:=by
      have a1:=blen_ge hq
      have a2:=blen_lt (n/18446744073709551616)
      have a3:=blen_pos hq
      obtain ⟨k,hk⟩:∃ k,blen (n/18446744073709551616)=k+1:=⟨blen (n/18446744073709551616)-1,by omega⟩
      rw [hk] at a1 a2 ⊢;rw [Nat.add_sub_cancel] at a1
      rw [show k+1+64=(k+64)+1 from by omega]
      have p:(2:Int)^(k+64)=18446744073709551616*2^k:=by rw [Int.pow_add];grind
      refine blen_eq ?_ ?_
      · rw [p];omega
      · rw [Int.pow_succ] at a2 ⊢;rw [p];omega
    have e2:(ws n)=(n % 18446744073709551616) :: ws (n/18446744073709551616):=ws_pos h
    rw [e,ih,e2,List.length_cons,Nat.add_sub_cancel]
    obtain ⟨j,hj⟩:∃ j,(ws (n/18446744073709551616)).length=j+1:=⟨(ws (n/18446744073709551616)).length-1,by omega⟩
    rw [hj,Nat.add_sub_cancel,nth_cons_succ];omega
  · have e2:(ws n) = [n]:=by
      rw [ws_pos h,ws_nonpos (n:=n/18446744073709551616) (by omega)]
      congr 1;omega
    rw [e2];simp [nth]
termination_by n.toNat
decreasing_by omega
set_option maxHeartbeats 400000 in
theorem len_calls{B:Nat}{w:World}{v:Value}{xs:List Int}(h:NatAt B w v xs) :
    Calls Tryz.prog 50 #[v] w fun e w'=>e = .returned (.int .i64 (blen (val xs)))∧w=w':=by
  have hv:=val_nonneg h.words
  go_enter Tryz.func50,Tryz.ntmps50
  go_wp2_with fail
  refine (trim_calls h).mono ?_
  rintro e w' ⟨v',rfl,hn,rfl⟩
  by_cases hx:ws (val xs) = []
  · obtain ⟨A,c,rfl,hc⟩:=hn.open0 hx
    have hz:Hid (blen (val xs)=0):=by show _=_;rw [(ws_eq_nil hv).1 hx];rfl
    clear hx hn
    go_wp2
    go_ret
    rw [hz.out];exact ⟨rfl,rfl⟩
  · have hp:0<(ws (val xs)).length:=List.length_pos_iff.2 hx
    obtain ⟨g,o,m,c,rfl,hm,hc,hcap,hlen0,hB,hg,hcell⟩:=hn.open1 hp
    have hw:Hid (Word (nth (ws (val xs)) m)):=hn.words.nth m
    have hl:Hid (blen (val xs)=64*m+blen (nth (ws (val xs)) m)):=by
      show _=_
      rw [blen_last (ws_pos_of hp),hm.out,Nat.add_sub_cancel]
    have hcm:=hcell m (by omega)
    have hb:blen (nth (ws (val xs)) m)≤64:=blen_le (by have:=hw.out.2;omega)
    clear hcell hn h hv hx hp
    go_wp2_with fail
    refine (len64_calls _ _ hw.out).mono ?_
    rintro e w' ⟨rfl,rfl⟩
    go_wp2
    go_ret
    refine ⟨?_,rfl⟩
    rw [hl.out,show ((64*m+blen (nth (ws (val xs)) m):Nat):Int)=64*(m:Int)+(blen (nth (ws (val xs)) m):Int) from by omega]
    rfl
theorem tz_at:∀ {xs:List Int} {k:Nat},Words xs→(∀ j,j<k→nth xs j=0)→nth xs k≠0→tz (val xs)=64*k+tz (nth xs k)
  | [],k,_,_,h=>by rw [nth_nil] at h;exact absurd rfl h
  | x :: xs,0,hw,_,h=>by
    rw [nth_cons_zero] at h ⊢
    have h1:=hw.head.1;have h2:=hw.head.2;have hv:=val_nonneg hw.tail
    obtain ⟨m,hm,e⟩:=tz_spec (n:=x) (by omega)
    have ht:tz x<64:=by
      have:=tz_lt_blen (n:=x) (by omega)
      have:=blen_le (n:=x) (k:=64) (by omega);omega
    obtain ⟨d,hd⟩:∃ d,64=tz x+(d+1):=⟨63-tz x,by omega⟩
    have p:(18446744073709551616:Int)=2^tz x*(2*2^d):=by
      have:(18446744073709551616:Int)=2^64:=by decide
      rw [this,hd,Int.pow_add,Int.pow_succ];grind
    rw [val_cons,Nat.mul_zero,Nat.zero_add]
    have q:=two_pow_pos d
    refine tz_unique (m:=m+2^d*val xs) (by have:=Int.mul_nonneg (show 0≤(2:Int)^d by omega) hv;omega) ?_
    rw [p];conv=>lhs;lhs;rw [e]
    grind
  | x :: xs,k+1,hw,hz,h=>by
    have h0:x=0:=hz 0 (by omega)
    rw [nth_cons_succ] at h ⊢
    have ih:=tz_at (xs:=xs) (k:=k) hw.tail (fun j hj=>by have:=hz (j+1) (by omega);rwa [nth_cons_succ] at this) h
    have hv:0<val xs:=by
      by_cases hv:0<val xs
      · exact hv
      · have:=val_nonneg hw.tail
        have e:val xs=0:=by omega
        rw [e,tz_zero] at ih
        have h3:∀ {ys:List Int} {j:Nat},Words ys→val ys=0→nth ys j=0:=by
          intro ys
          induction ys with
          | nil=>intro j _ _;exact nth_nil j
          | cons y ys ihy =>
            intro j hy he
            rw [val_cons] at he
            have:=hy.head.1;have:=val_nonneg hy.tail
            cases j with
            | zero=>rw [nth_cons_zero];omega
            | succ j=>rw [nth_cons_succ];exact ihy hy.tail (by omega)
        exact absurd (h3 hw.tail e) h
    subst h0
    rw [val_cons,Int.zero_add,show (18446744073709551616:Int)*val xs=val xs*2^64 from by rw [show (18446744073709551616:Int)=2^64 from by decide];grind,tz_mul_pow hv,ih]
    omega
theorem val_all_zero:∀ {xs:List Int},(∀ j,j<xs.length→nth xs j=0)→val xs=0
  | [],_=>rfl
  | x :: xs,h=>by
    have h0:x=0:=h 0 (by simp)
    rw [val_cons,h0,val_all_zero (fun j hj=>by have:=h (j+1) (by simp;omega);rwa [nth_cons_succ] at this)];simp
set_option maxHeartbeats 400000 in
theorem low_calls{B:Nat}{w:World}{v:Value}{xs:List Int}(hT:Tab w)(h:NatAt B w v xs) :
    Calls Tryz.prog 85 #[v] w fun e w'=>e = .returned (.int .i64 (tz (val xs)))∧w=w':=by
  have hw:=Lib.hid h.words
  have HT:Hid (Tab w):=hT
  clear hT
  by_cases hx:xs = []
  · obtain ⟨A,c,rfl,hc⟩:=h.open0 hx
    have hz:Hid (tz (val xs)=0):=by show _=_;rw [hx,val_nil,tz_zero]
    clear hx h
    go_enter Tryz.func85,Tryz.ntmps85
    go_wp2
    go_loop [7] (fun i=>i = .int .i64 0) (fun i=>0)
    case atStart=>rfl
    case round =>
      obtain rfl:=hrel
      go_wp2
      go_ret
      rw [hz.out];exact ⟨rfl,rfl⟩
  · have hp:0<xs.length:=List.length_pos_iff.2 hx
    obtain ⟨g,o,m,c,rfl,hm,hc,hcap,hlen0,hB,hg,hcell⟩:=h.open1 hp
    clear hx h hp
    go_enter Tryz.func85,Tryz.ntmps85
    go_wp2
    go_loop [7] (fun i=>∃ k:Nat,k≤m+1∧i = .int .i64 k∧Hid (∀ j,j<k→nth xs j=0)) (fun i=>m+1-(intOf i).toNat)
    case atStart=>exact ⟨0,by omega,rfl,fun j hj=>by omega⟩
    case round =>
      obtain ⟨k,hk,rfl,hr⟩:=hrel
      by_cases hlt:k<m+1
      · have hck:=hcell k hlt
        by_cases hz:nth xs k=0
        · have hb:(nth xs k != 0)=false:=by simpa using hz
          have hr':Hid (∀ j,j<k+1→nth xs j=0):=fun j hj=>by
            by_cases e:j=k
            · subst e;exact hz
            · exact hr.out j (by omega)
          clear hz hr
          go_wp2
          go_round
          case rel=>exact ⟨k+1,by omega,by go_num,hr'⟩
          case measure=>simp [intOf];omega
        · have hb:(nth xs k != 0)=true:=by simpa using hz
          have hr':Hid (tz (val xs)=64*k+tz (nth xs k)):=tz_at hw.out hr.out hz
          have hW:Hid (Word (nth xs k)):=hw.out.nth k
          have h64:tz (nth xs k)≤64:=by
            have h1:=hW.out.1;have h2:=hW.out.2
            have:=tz_lt_blen (n:=nth xs k) (by omega)
            have:=blen_le (n:=nth xs k) (k:=64) (by omega);omega
          have hz':Hid (nth xs k≠0):=hz
          clear hz hr
          go_wp2_with fail
          refine (tz64_calls _ _ HT.out hW.out hz'.out).mono ?_
          rintro e w' ⟨rfl,rfl⟩
          go_wp2
          go_ret
          refine ⟨?_,rfl⟩
          rw [hr'.out,show ((64*k+tz (nth xs k):Nat):Int)=64*(k:Int)+(tz (nth xs k):Int) from by omega]
          rfl
      · have hr':Hid (tz (val xs)=0):=by
          show _=_
          rw [val_all_zero (fun j hj=>hr.out j (by have:=hm.out;omega)),tz_zero]
        clear hr
        go_wp2
        go_ret
        rw [hr'.out];exact ⟨rfl,rfl⟩
def cmpI(a b:Int):Int:=if a<b then -1 else if b<a then 1 else 0
theorem cmpI_len{a b:Int}(h:(ws a).length<(ws b).length)(ha:0≤a):cmpI a b = -1:=by
  have h1:=lt_wpow_ws ha
  have:a<b:=by
    by_cases hab:a<b
    · exact hab
    · have:=ws_length_le (n:=b) (k:=(ws a).length) (by omega);omega
  unfold cmpI;rw [if_pos this]
theorem cmpI_len'{a b:Int}(h:(ws b).length<(ws a).length)(hb:0≤b):cmpI a b=1:=by
  have h1:=lt_wpow_ws hb
  have:b<a:=by
    by_cases hab:b<a
    · exact hab
    · have:=ws_length_le (n:=a) (k:=(ws b).length) (by omega);omega
  unfold cmpI;rw [if_neg (by omega),if_pos this]
theorem cmp_at{xs ys:List Int}{k:Nat}(hx:Words xs)(hy:Words ys)(hl:xs.length=ys.length)(hk:k<xs.length)(he:∀ j,k<j→nth xs j=nth ys j)(hlt:nth xs k<nth ys k):val xs<val ys:=by
  have h1:=val_split xs (k+1) (by omega)
  have h2:=val_split ys (k+1) (by omega)
  have e:xs.drop (k+1)=ys.drop (k+1):=by
    apply List.ext_getElem?
    intro i
    by_cases hi:k+1+i<xs.length
    · rw [List.getElem?_drop,List.getElem?_drop,nth_get? hi,nth_get? (by omega),he _ (by omega)]
    · rw [List.getElem?_eq_none (by simp;omega),List.getElem?_eq_none (by simp;omega)]
  rw [h1,h2,e,val_take_more,val_take_more]
  have a1:=val_lt (hx.take k)
  have a2:=val_nonneg (hy.take k)
  rw [List.length_take,Nat.min_eq_left (by omega)] at a1
  have p:=wpow_pos k
  have:=imL (show nth xs k+1≤nth ys k by omega) (show 0≤wpow k by omega)
  rw [Int.mul_add] at this
  omega
theorem ext_nth{xs ys:List Int}(hl:xs.length=ys.length)(he:∀ j,nth xs j=nth ys j):xs=ys:=by
  apply List.ext_getElem?
  intro i
  by_cases hi:i<xs.length
  · rw [nth_get? hi,nth_get? (by omega),he]
  · rw [List.getElem?_eq_none (by omega),List.getElem?_eq_none (by omega)]
theorem cmpI_of_lt{a b:Int}(h:a<b):cmpI a b = -1:=by unfold cmpI;rw [if_pos h]
theorem cmpI_of_gt{a b:Int}(h:b<a):cmpI a b=1:=by unfold cmpI;rw [if_neg (by omega),if_pos h]
theorem cmpI_self(a:Int):cmpI a a=0:=by unfold cmpI;rw [if_neg (by omega),if_neg (by omega)]
set_option maxHeartbeats 800000 in
theorem lcmp_calls{B B':Nat}{w:World}{v v':Value}{xs ys:List Int}(h:NatAt B w v xs)(h':NatAt B' w v' ys) :
    Calls Tryz.prog 101 #[v,v'] w fun e w'=>e = .returned (.int .i64 (cmpI (val xs) (val ys)))∧Below w.heap.size w w':=by
  have hvx:=val_nonneg h.words
  have hvy:=val_nonneg h'.words
  go_enter Tryz.func101,Tryz.ntmps101
  go_wp2_with fail
  refine (trim_calls h).mono ?_
  rintro e w' ⟨v1,rfl,hn,rfl⟩
  go_wp2_with fail
  refine (trim_calls h').mono ?_
  rintro e w' ⟨v2,rfl,hn',rfl⟩
  clear h h'
  obtain ⟨A1,L1,c1,rfl,e1,k1,q1⟩:=hn.open
  obtain ⟨A2,L2,c2,rfl,e2,k2,q2⟩:=hn'.open
  have s1:=hn.len;have s2:=hn'.len
  have b1:L1≤17592186044415:=by have:=e1.out;omega
  have b2:L2≤17592186044415:=by have:=e2.out;omega
  clear s1 s2
  by_cases hne:L1=L2
  · subst hne
    cases L1 with
    | zero =>
      have hc:Hid (cmpI (val xs) (val ys)=0):=by
        show _=_
        have z1:=(ws_eq_nil hvx).1 (List.eq_nil_of_length_eq_zero e1.out)
        have z2:=(ws_eq_nil hvy).1 (List.eq_nil_of_length_eq_zero e2.out)
        rw [z1,z2];rfl
      clear hn hn' hvx hvy e1 e2
      go_wp2
      go_loop [5] (fun i=>i = .int .i64 (-1)) (fun i=>0)
      case atStart=>rfl
      case round =>
        obtain rfl:=hrel
        go_wp2
        go_ret
        rw [hc.out];exact ⟨rfl,Below.refl _ _⟩
    | succ m =>
      obtain ⟨g1,o1,m1,c1',E1,f1,_,_,_,_,_,hcx⟩:=hn.open1 (by rw [e1.out];omega)
      obtain ⟨g2,o2,m2,c2',E2,f2,_,_,_,_,_,hcy⟩:=hn'.open1 (by rw [e2.out];omega)
      obtain rfl:m=m1:=by have:=e1.out;have:=f1.out;omega
      obtain rfl:m=m2:=by have:=e2.out;have:=f2.out;omega
      simp only [Value.slice.injEq] at E1 E2
      obtain ⟨rfl,_,rfl⟩:=E1
      obtain ⟨rfl,_,rfl⟩:=E2
      have wx:Hid (Words (ws (val xs))):=hn.words
      have wy:Hid (Words (ws (val ys))):=hn'.words
      have vx:Hid (val (ws (val xs))=val xs):=val_ws hvx
      have vy:Hid (val (ws (val ys))=val ys):=val_ws hvy
      clear hn hn' f1 f2 hvx hvy
      generalize ws (val xs)=X at *
      generalize ws (val ys)=Y at *
      go_wp2
      go_loopw [5] (fun i wr=>∃ k:Nat,k≤m+1∧i = .int .i64 ((k:Int)-1)∧(∃ n,wr=w.drewN n)∧Hid (∀ j,k≤j→nth X j=nth Y j)) (fun i _=>(intOf i+1).toNat)
      case atStart =>
        refine ⟨m+1,by omega,by go_num,⟨0,rfl⟩,fun j hj=>?_⟩
        rw [nth_ge (by have:=e1.out;omega),nth_ge (by have:=e2.out;omega)]
      case round =>
        obtain ⟨k,hk,rfl,⟨n,rfl⟩,hr⟩:=hrel
        by_cases h0:0<k
        · obtain ⟨j,rfl⟩:∃ j,k=j+1:=⟨k-1,by omega⟩
          have hxj:=hcx j (by omega)
          have hyj:=hcy j (by omega)
          have e0:((j+1:Nat):Int)-1=(j:Int):=by omega
          rw [e0]
          clear e0
          by_cases heq:nth X j=nth Y j
          · have hb:(nth X j != nth Y j)=false:=by simpa using heq
            have hr':Hid (∀ i,j≤i→nth X i=nth Y i):=fun i hi=>by
              by_cases e:i=j
              · subst e;exact heq
              · exact hr.out i (by omega)
            clear heq hr
            go_wp2
            go_quiet (fail)
            go_wp2
            go_roundw
            case rel=>exact ⟨j,by omega,rfl,⟨_,rfl⟩,hr'⟩
            case measure=>simp [intOf]
          · have hb:(nth X j != nth Y j)=true:=by simpa using heq
            by_cases hlt:nth X j<nth Y j
            · have hd:decide (nth X j<nth Y j)=true:=by simpa using hlt
              have hc:Hid (cmpI (val xs) (val ys) = -1):=by
                show _=_
                rw [←vx.out,←vy.out]
                exact cmpI_of_lt (cmp_at wx.out wy.out (by rw [e1.out,e2.out]) (by rw [e1.out];omega) (fun i hi=>hr.out i (by omega)) hlt)
              clear heq hr hlt
              go_wp2
              go_quiet (fail)
              go_wp2
              go_quiet (fail)
              go_wp2
              go_ret
              rw [hc.out]
              exact ⟨rfl,below_draws (below_draws (below_draws (Below.refl _ _) _) _) _⟩
            · have hd:decide (nth X j<nth Y j)=false:=by simpa using hlt
              have hc:Hid (cmpI (val xs) (val ys)=1):=by
                show _=_
                rw [←vx.out,←vy.out]
                exact cmpI_of_gt (cmp_at (k:=j) wy.out wx.out (by rw [e1.out,e2.out]) (by rw [e2.out];omega) (fun i hi=>(hr.out i (by omega)).symm) (by omega))
              clear heq hr hlt
              go_wp2
              go_quiet (fail)
              go_wp2
              go_quiet (fail)
              go_wp2
              go_ret
              rw [hc.out]
              exact ⟨rfl,below_draws (below_draws (below_draws (Below.refl _ _) _) _) _⟩
        · obtain rfl:k=0:=by omega
          have hc:Hid (cmpI (val xs) (val ys)=0):=by
            show _=_
            rw [←vx.out,←vy.out,ext_nth (by rw [e1.out,e2.out]) (fun i=>hr.out i (by omega))]
            exact cmpI_self _
          clear hr
          go_wp2
          go_ret
          rw [hc.out]
          exact ⟨rfl,below_draws (Below.refl _ _) _⟩
  · have hb:((L1:Int) != (L2:Int))=true:=by simp;omega
    by_cases hlt:L1<L2
    · have hd:decide ((L1:Int)<(L2:Int))=true:=by simp;omega
      have hc:Hid (cmpI (val xs) (val ys) = -1):=cmpI_len (by rw [e1.out,e2.out];exact hlt) hvx
      clear hn hn' e1 e2 hne
      go_wp2
      go_ret
      rw [hc.out]
      exact ⟨rfl,Below.refl _ _⟩
    · have hd:decide ((L1:Int)<(L2:Int))=false:=by simp;omega
      have hc:Hid (cmpI (val xs) (val ys)=1):=cmpI_len' (by rw [e1.out,e2.out];omega) hvy
      clear hn hn' e1 e2
      go_wp2
      go_ret
      rw [hc.out]
      exact ⟨rfl,Below.refl _ _⟩
theorem info_u64:(Tryz.prog.info? 48).map (fun i=>(i.zero,i.size,i.bytes))=some (some (.int .u64 0),1,8):=by kernel_rfl
def cellsOf(xs:List Int):Array Value:=(xs.map (Value.int .u64)).toArray
theorem cellsOf_get{xs:List Int}{j:Nat}(h:j<xs.length):(cellsOf xs)[j]?=some (.int .u64 (nth xs j)):=by simp [cellsOf,nth_get? h]
theorem cellsOf_set{xs:List Int}(j:Nat)(x:Int):(cellsOf xs).setIfInBounds j (.int .u64 x)=cellsOf (xs.set j x):=by simp [cellsOf,List.map_set]
theorem madeCells_zero(n:Nat):madeCells #[Value.int .u64 0] n=cellsOf (List.replicate n 0):=by
  apply Array.ext'
  rw [toList_madeCells_one];simp [cellsOf]
def RowAt(w:World)(G:Nat)(xs:List Int):Prop:=w.heap[G]?=some (.cells (cellsOf xs) 48 (0,0))
theorem RowAt.cell{w:World}{G:Nat}{xs:List Int}(h:RowAt w G xs){j:Nat}(hj:j<xs.length):w.cell? ⟨G,j,none⟩=some (.int .u64 (nth xs j)):=by
  rw [cell_of_row w G j _ _ _ h,cellsOf_get hj]
theorem RowAt.frozen{w:World}{G:Nat}{xs:List Int}(h:RowAt w G xs)(j:Nat):w.frozen? ⟨G,j,none⟩=false:=frozen_of_row w G j _ _ h
theorem RowAt.lt{w:World}{G:Nat}{xs:List Int}(h:RowAt w G xs):G<w.heap.size:=(Array.getElem?_eq_some_iff.1 h).1
theorem RowAt.set{w:World}{G:Nat}{xs:List Int}(h:RowAt w G xs)(j:Nat)(x:Int):RowAt (w.setCell ⟨G,j,none⟩ (.int .u64 x)) G (xs.set j x):=by
  unfold RowAt;rw [heap_setCell_same w G j _ _ _ h,cellsOf_set]
theorem RowAt.below{w w':World}{G:Nat}{xs:List Int}(h:RowAt w G xs)(hb:Below w.heap.size w w'):RowAt w' G xs:=(hb.block G h.lt).trans h
theorem RowAt.made(w:World)(n:Nat):RowAt (w.alloc (.cells (cellsOf (List.replicate n 0)) 48)) w.heap.size (List.replicate n 0):=heap_alloc_new w _
theorem RowAt.nat{w:World}{G B:Nat}{xs:List Int}(h:RowAt w G xs)(hB:B≤G)(hw:Words xs)(n:Nat)(hn:xs.length=n)(hl:xs.length≤17592186044415):NatAt B w (.slice (some ⟨G,0,none⟩) n n) xs:=by
  subst hn
  exact ⟨_,_,rfl,Nat.le_refl _,⟨by omega,hl⟩,hw,by simp,fun _=>⟨G,0,rfl,hB,h.lt,fun j hj=>by rw [Nat.zero_add];exact h.cell hj⟩⟩
theorem make_run(t:TypeId)(ht:Tryz.prog.underlying t=some (.slice 48))(n:Nat)(hn:n≤35184372088832)(W:World) :
    (Instr.makeSlice t (.int .i64 (n:Int)) (.int .i64 (n:Int))).run Tryz.prog W = .ok (.slice (some ⟨W.heap.size,0,none⟩) n n) (W.alloc (.cells (cellsOf (List.replicate n 0)) 48)):=by
  obtain ⟨i0,hi,h0,h1,h2⟩:=info_parts info_u64
  have hr:=run_make (P:=Tryz.prog) W t _ i0 (.int .u64 0) ht hi h0 .i64 .i64 n n (by omega) (Int.le_refl _) (by rw [h2];omega) (by omega)
  rw [hr,h1,Int.toNat_natCast,Nat.mul_one]
  have:madeCells (Value.int IntKind.u64 0).cells n=cellsOf (List.replicate n 0):=madeCells_zero n
  rw [this]
theorem NatAt.sub{B:Nat}{w:World}{v:Value}{xs:List Int}(h:NatAt B w v xs) :
    ∃ A L c g o,v = .slice A L c∧(0<L→A=some ⟨g,o,none⟩)∧L≤c∧c≤9223372036854775807∧L≤17592186044415∧(0<L→g<w.heap.size)∧(∀ j,j<L→w.cell? ⟨g,o+j,none⟩=some (.int .u64 (nth xs j)))∧Hid (xs.length=L)∧Hid (Words xs):=by
  obtain ⟨A,c,rfl,h1,h2,h3,h5,h4⟩:=h
  by_cases hp:0<xs.length
  · obtain ⟨g,o,rfl,hB,hg,hc⟩:=h4 hp
    exact ⟨_,_,c,g,o,rfl,fun _=>rfl,h1,h2.1,h2.2,fun _=>hg,hc,rfl,h3⟩
  · exact ⟨_,_,c,0,0,rfl,fun h=>absurd h hp,h1,h2.1,h2.2,fun h=>absurd h hp,fun j hj=>absurd hj (by omega),rfl,h3⟩
set_option maxHeartbeats 1600000 in
theorem ladd_calls{B B':Nat}{w:World}{v v':Value}{xs ys:List Int}(h:NatAt B w v xs)(h':NatAt B' w v' ys)(hx:xs.length≤17592186044414)(hy:ys.length≤17592186044414) :
    Calls Tryz.prog 139 #[v,v'] w (RNat w (ws (val xs+val ys))):=by
  obtain ⟨A1,L1,c1,g1,o1,rfl,a1,k1,q1,l1,hg1,hc1,e1,wx1⟩:=h.sub
  obtain ⟨A2,L2,c2,g2,o2,rfl,a2,k2,q2,l2,hg2,hc2,e2,wx2⟩:=h'.sub
  have b1:L1≤17592186044414:=by have:=e1.out;omega
  have b2:L2≤17592186044414:=by have:=e2.out;omega
  clear h h' hx hy
  by_cases hs:L1<L2
  · have hd:decide ((L1:Int)<(L2:Int))=true:=by simp;omega
    go_enter Tryz.func139,Tryz.ntmps139
    have hmk:=make_run 22 Tryz.underlying22 (L2+1) (by omega)
    rw [show ((L2+1:Nat):Int)=(L2:Int)+1 from by omega] at hmk
    go_wp2
    go_loopw [6,22] (fun c i wr=>∃ (k:Nat) (zs:List Int) (cc:Int),k≤L2∧i = .int .i64 k∧c = .int .u64 cc∧0≤cc∧cc≤1∧w.heap.size<wr.heap.size∧RowAt wr w.heap.size (zs ++ List.replicate (L2+1-k) 0)∧Below w.heap.size w wr∧Hid (zs.length=k∧Words zs∧val zs+wpow k*cc=val (ys.take k)+val (xs.take k))) (fun _ i _=>L2-(intOf i).toNat)
    case atStart =>
      refine ⟨0,[],0,by omega,rfl,rfl,by omega,by omega,by simp,RowAt.made _ _,below_also _ _,?_⟩
      exact ⟨rfl,Words.nil,by simp [val,wpow]⟩
    case round =>
      obtain ⟨k,zs,cc,hk,rfl,rfl,cb0,cb1,hG,hrow,hbel,hr⟩:=hrel
      obtain ⟨hcellsW,hfrozW⟩:=bcell hbel
      by_cases hlt:k<L2
      · obtain rfl:=a2 (by omega)
        have hg1':=hg2 (by omega)
        have hlen:Hid ((zs ++ List.replicate (L2+1-k) 0).length=L2+1):=by
          show _=_
          rw [List.length_append,List.length_replicate,hr.out.1];omega
        have hxk:wr.cell? ⟨g2,o2+k,none⟩=some (.int .u64 (nth ys k)):=(hcellsW _ _ hg1').trans (hc2 k (by omega))
        have hout:wr.cell? ⟨w.heap.size,k,none⟩=some (.int .u64 (nth (zs ++ List.replicate (L2+1-k) 0) k)):=hrow.cell (by rw [hlen.out];omega)
        have hfr:wr.frozen? ⟨w.heap.size,k,none⟩=false:=hrow.frozen k
        have wxk:Hid (Word (nth ys k)):=wx2.out.nth k
        have wyk:Hid (Word (nth xs k)):=wx1.out.nth k
        have hrun:=fun (y:Int) (hy:y=nth xs k) (W:World)=>add64_run (x:=nth ys k) (y:=y) (c:=cc) wxk.out (by rw [hy];exact wyk.out) ⟨cb0,cb1⟩ W
        have hnew:Hid (RowAt (wr.setCell ⟨w.heap.size,k,none⟩ (.int .u64 (lo64 (nth ys k+nth xs k+cc)))) w.heap.size ((zs ++ [lo64 (nth ys k+nth xs k+cc)]) ++ List.replicate (L2+1-(k+1)) 0)):=by
          have:=hrow.set k (lo64 (nth ys k+nth xs k+cc))
          rw [List.set_append_right _ _ (by rw [hr.out.1];omega),hr.out.1,Nat.sub_self,show L2+1-k=(L2+1-(k+1))+1 from by omega,List.replicate_succ,List.set_cons_zero] at this
          rw [List.append_assoc,List.singleton_append];exact this
        have hrel':Hid ((zs ++ [lo64 (nth ys k+nth xs k+cc)]).length=k+1∧Words (zs ++ [lo64 (nth ys k+nth xs k+cc)])∧val (zs ++ [lo64 (nth ys k+nth xs k+cc)])+wpow (k+1)*hi64 (nth ys k+nth xs k+cc)=val (ys.take (k+1))+val (xs.take (k+1))):=by
          obtain ⟨r1,r2,r3⟩:=hr.out
          refine ⟨by simp [r1],r2.append (Words.nil.cons (lo64_word _)),?_⟩
          rw [val_append,r1,wpow_succ,val_take_more,val_take_more]
          have:=lo_hi (nth ys k+nth xs k+cc)
          simp only [val]
          grind
        have hbit:Hid (0≤hi64 (nth ys k+nth xs k+cc)∧hi64 (nth ys k+nth xs k+cc)≤1):=hi64_bit wxk.out wyk.out ⟨cb0,cb1⟩
        have hbel':Hid (Below w.heap.size w wr):=hbel
        clear hr hlen hrow hbel
        by_cases hly:k<L1
        · obtain rfl:=a1 (by omega)
          have hyk:wr.cell? ⟨g1,o1+k,none⟩=some (.int .u64 (nth xs k)):=(hcellsW _ _ (hg1 (by omega))).trans (hc1 k (by omega))
          have hrun':=hrun _ rfl
          clear hrun hcellsW hfrozW
          go_wp2
          go_roundw
          case rel=>exact ⟨k+1,_,_,by omega,by go_num,rfl,hbit.out.1,hbit.out.2,by simpa using hG,hnew.out,hbel'.out.setCell (Nat.le_refl _) _,hrel'⟩
          case measure=>simp [intOf];omega
        · have hy0:Hid (nth xs k=0):=nth_ge (by have:=e1.out;omega)
          have hrun':=hrun 0 hy0.out.symm
          clear hrun hcellsW hfrozW
          simp only [hy0.out,Int.add_zero] at hnew hrel' hbit
          go_wp2
          go_roundw
          case rel=>exact ⟨k+1,_,_,by omega,by go_num,rfl,hbit.out.1,hbit.out.2,by simpa using hG,hnew.out,hbel'.out.setCell (Nat.le_refl _) _,hrel'⟩
          case measure=>simp [intOf];omega
      · obtain rfl:L2=k:=by omega
        have hlen:Hid ((zs ++ List.replicate (L2+1-L2) 0).length=L2+1):=by
          show _=_
          rw [List.length_append,List.length_replicate,hr.out.1];omega
        have hout:wr.cell? ⟨w.heap.size,L2,none⟩=some (.int .u64 (nth (zs ++ List.replicate (L2+1-L2) 0) L2)):=hrow.cell (by rw [hlen.out];omega)
        have hfr:wr.frozen? ⟨w.heap.size,L2,none⟩=false:=hrow.frozen _
        have wcc:Word cc:=⟨by omega,by omega⟩
        have hnew:RowAt (wr.setCell ⟨w.heap.size,L2,none⟩ (.int .u64 cc)) w.heap.size (zs ++ [cc]):=by
          have:=hrow.set L2 cc
          rw [List.set_append_right _ _ (by rw [hr.out.1];omega),hr.out.1,Nat.sub_self,show L2+1-L2=1 from by omega] at this
          exact this
        have hval:Hid (val (zs ++ [cc])=val xs+val ys):=by
          obtain ⟨r1,r2,r3⟩:=hr.out
          show _=_
          rw [val_take_all _ _ (by rw [e2.out];omega),val_take_all _ _ (by rw [e1.out];omega)] at r3
          rw [val_append,r1];simp only [val,Int.mul_zero,Int.add_zero];omega
        have hn:Hid (NatAt w.heap.size (wr.setCell ⟨w.heap.size,L2,none⟩ (.int .u64 cc)) (.slice (some ⟨w.heap.size,0,none⟩) (L2+1) (L2+1)) (zs ++ [cc])) :=
          hnew.nat (Nat.le_refl _) (hr.out.2.1.append (Words.nil.cons wcc)) _ (by simp [hr.out.1]) (by simp [hr.out.1];omega)
        have hbel':Hid (Below w.heap.size w wr):=hbel
        clear hr hlen hrow hbel hcellsW hfrozW hnew
        go_wp2_with fail
        refine (trim_calls hn.out).mono ?_
        rintro e w' ⟨v',rfl,hn',rfl⟩
        go_wp2
        go_ret
        refine ⟨_,rfl,?_,hbel'.out.setCell (Nat.le_refl _) _⟩
        rw [←hval.out];exact hn'
  · have hd:decide ((L1:Int)<(L2:Int))=false:=by simp;omega
    go_enter Tryz.func139,Tryz.ntmps139
    have hmk:=make_run 22 Tryz.underlying22 (L1+1) (by omega)
    rw [show ((L1+1:Nat):Int)=(L1:Int)+1 from by omega] at hmk
    go_wp2
    go_loopw [6,22] (fun c i wr=>∃ (k:Nat) (zs:List Int) (cc:Int),k≤L1∧i = .int .i64 k∧c = .int .u64 cc∧0≤cc∧cc≤1∧w.heap.size<wr.heap.size∧RowAt wr w.heap.size (zs ++ List.replicate (L1+1-k) 0)∧Below w.heap.size w wr∧Hid (zs.length=k∧Words zs∧val zs+wpow k*cc=val (xs.take k)+val (ys.take k))) (fun _ i _=>L1-(intOf i).toNat)
    case atStart =>
      refine ⟨0,[],0,by omega,rfl,rfl,by omega,by omega,by simp,RowAt.made _ _,below_also _ _,?_⟩
      exact ⟨rfl,Words.nil,by simp [val,wpow]⟩
    case round =>
      obtain ⟨k,zs,cc,hk,rfl,rfl,cb0,cb1,hG,hrow,hbel,hr⟩:=hrel
      obtain ⟨hcellsW,hfrozW⟩:=bcell hbel
      by_cases hlt:k<L1
      · obtain rfl:=a1 (by omega)
        have hg1':=hg1 (by omega)
        have hlen:Hid ((zs ++ List.replicate (L1+1-k) 0).length=L1+1):=by
          show _=_
          rw [List.length_append,List.length_replicate,hr.out.1];omega
        have hxk:wr.cell? ⟨g1,o1+k,none⟩=some (.int .u64 (nth xs k)):=(hcellsW _ _ hg1').trans (hc1 k (by omega))
        have hout:wr.cell? ⟨w.heap.size,k,none⟩=some (.int .u64 (nth (zs ++ List.replicate (L1+1-k) 0) k)):=hrow.cell (by rw [hlen.out];omega)
        have hfr:wr.frozen? ⟨w.heap.size,k,none⟩=false:=hrow.frozen k
        have wxk:Hid (Word (nth xs k)):=wx1.out.nth k
        have wyk:Hid (Word (nth ys k)):=wx2.out.nth k
        have hrun:=fun (y:Int) (hy:y=nth ys k) (W:World)=>add64_run (x:=nth xs k) (y:=y) (c:=cc) wxk.out (by rw [hy];exact wyk.out) ⟨cb0,cb1⟩ W
        have hnew:Hid (RowAt (wr.setCell ⟨w.heap.size,k,none⟩ (.int .u64 (lo64 (nth xs k+nth ys k+cc)))) w.heap.size ((zs ++ [lo64 (nth xs k+nth ys k+cc)]) ++ List.replicate (L1+1-(k+1)) 0)):=by
          have:=hrow.set k (lo64 (nth xs k+nth ys k+cc))
          rw [List.set_append_right _ _ (by rw [hr.out.1];omega),hr.out.1,Nat.sub_self,show L1+1-k=(L1+1-(k+1))+1 from by omega,List.replicate_succ,List.set_cons_zero] at this
          rw [List.append_assoc,List.singleton_append];exact this
        have hrel':Hid ((zs ++ [lo64 (nth xs k+nth ys k+cc)]).length=k+1∧Words (zs ++ [lo64 (nth xs k+nth ys k+cc)])∧val (zs ++ [lo64 (nth xs k+nth ys k+cc)])+wpow (k+1)*hi64 (nth xs k+nth ys k+cc)=val (xs.take (k+1))+val (ys.take (k+1))):=by
          obtain ⟨r1,r2,r3⟩:=hr.out
          refine ⟨by simp [r1],r2.append (Words.nil.cons (lo64_word _)),?_⟩
          rw [val_append,r1,wpow_succ,val_take_more,val_take_more]
          have:=lo_hi (nth xs k+nth ys k+cc)
          simp only [val]
          grind
        have hbit:Hid (0≤hi64 (nth xs k+nth ys k+cc)∧hi64 (nth xs k+nth ys k+cc)≤1):=hi64_bit wxk.out wyk.out ⟨cb0,cb1⟩
        have hbel':Hid (Below w.heap.size w wr):=hbel
        clear hr hlen hrow hbel
        by_cases hly:k<L2
        · obtain rfl:=a2 (by omega)
          have hyk:wr.cell? ⟨g2,o2+k,none⟩=some (.int .u64 (nth ys k)):=(hcellsW _ _ (hg2 (by omega))).trans (hc2 k (by omega))
          have hrun':=hrun _ rfl
          clear hrun hcellsW hfrozW
          go_wp2
          go_roundw
          case rel=>exact ⟨k+1,_,_,by omega,by go_num,rfl,hbit.out.1,hbit.out.2,by simpa using hG,hnew.out,hbel'.out.setCell (Nat.le_refl _) _,hrel'⟩
          case measure=>simp [intOf];omega
        · have hy0:Hid (nth ys k=0):=nth_ge (by have:=e2.out;omega)
          have hrun':=hrun 0 hy0.out.symm
          clear hrun hcellsW hfrozW
          simp only [hy0.out,Int.add_zero] at hnew hrel' hbit
          go_wp2
          go_roundw
          case rel=>exact ⟨k+1,_,_,by omega,by go_num,rfl,hbit.out.1,hbit.out.2,by simpa using hG,hnew.out,hbel'.out.setCell (Nat.le_refl _) _,hrel'⟩
          case measure=>simp [intOf];omega
      · obtain rfl:L1=k:=by omega
        have hlen:Hid ((zs ++ List.replicate (L1+1-L1) 0).length=L1+1):=by
          show _=_
          rw [List.length_append,List.length_replicate,hr.out.1];omega
        have hout:wr.cell? ⟨w.heap.size,L1,none⟩=some (.int .u64 (nth (zs ++ List.replicate (L1+1-L1) 0) L1)):=hrow.cell (by rw [hlen.out];omega)
        have hfr:wr.frozen? ⟨w.heap.size,L1,none⟩=false:=hrow.frozen _
        have wcc:Word cc:=⟨by omega,by omega⟩
        have hnew:RowAt (wr.setCell ⟨w.heap.size,L1,none⟩ (.int .u64 cc)) w.heap.size (zs ++ [cc]):=by
          have:=hrow.set L1 cc
          rw [List.set_append_right _ _ (by rw [hr.out.1];omega),hr.out.1,Nat.sub_self,show L1+1-L1=1 from by omega] at this
          exact this
        have hval:Hid (val (zs ++ [cc])=val xs+val ys):=by
          obtain ⟨r1,r2,r3⟩:=hr.out
          show _=_
          rw [val_take_all _ _ (by rw [e1.out];omega),val_take_all _ _ (by rw [e2.out];omega)] at r3
          rw [val_append,r1];simp only [val,Int.mul_zero,Int.add_zero];omega
        have hn:Hid (NatAt w.heap.size (wr.setCell ⟨w.heap.size,L1,none⟩ (.int .u64 cc)) (.slice (some ⟨w.heap.size,0,none⟩) (L1+1) (L1+1)) (zs ++ [cc])) :=
          hnew.nat (Nat.le_refl _) (hr.out.2.1.append (Words.nil.cons wcc)) _ (by simp [hr.out.1]) (by simp [hr.out.1];omega)
        have hbel':Hid (Below w.heap.size w wr):=hbel
        clear hr hlen hrow hbel hcellsW hfrozW hnew
        go_wp2_with fail
        refine (trim_calls hn.out).mono ?_
        rintro e w' ⟨v',rfl,hn',rfl⟩
        go_wp2
        go_ret
        refine ⟨_,rfl,?_,hbel'.out.setCell (Nat.le_refl _) _⟩
        rw [←hval.out];exact hn'
set_option maxHeartbeats 1600000 in
theorem lsub_calls{B B':Nat}{w:World}{v v':Value}{xs ys:List Int}(h:NatAt B w v xs)(h':NatAt B' w v' ys)(hle:val ys≤val xs) :
    Calls Tryz.prog 144 #[v,v'] w (RNat w (ws (val xs-val ys))):=by
  obtain ⟨A1,L1,c1,g1,o1,rfl,a1,k1,q1,l1,hg1,hc1,e1,wx1⟩:=h.sub
  obtain ⟨A2,L2,c2,g2,o2,rfl,a2,k2,q2,l2,hg2,hc2,e2,wx2⟩:=h'.sub
  have HLE:=Lib.hid hle
  clear h h' hle
  go_enter Tryz.func144,Tryz.ntmps144
  have hmk:=make_run 22 Tryz.underlying22 (L1) (by omega)
  go_wp2
  go_loopw [6,14] (fun c i wr=>∃ (k:Nat) (zs:List Int) (cc:Int),k≤L1∧i = .int .i64 k∧c = .int .u64 cc∧0≤cc∧cc≤1∧w.heap.size<wr.heap.size∧RowAt wr w.heap.size (zs ++ List.replicate (L1-k) 0)∧Below w.heap.size w wr∧Hid (zs.length=k∧Words zs∧val zs-wpow k*cc=val (xs.take k)-val (ys.take k))) (fun _ i _=>L1-(intOf i).toNat)
  case atStart =>
    refine ⟨0,[],0,by omega,rfl,rfl,by omega,by omega,by simp,RowAt.made _ _,below_also _ _,?_⟩
    exact ⟨rfl,Words.nil,by simp [val,wpow]⟩
  case round =>
    obtain ⟨k,zs,cc,hk,rfl,rfl,cb0,cb1,hG,hrow,hbel,hr⟩:=hrel
    obtain ⟨hcellsW,hfrozW⟩:=bcell hbel
    by_cases hlt:k<L1
    · obtain rfl:=a1 (by omega)
      have hg1':=hg1 (by omega)
      have hlen:Hid ((zs ++ List.replicate (L1-k) 0).length=L1):=by
        show _=_
        rw [List.length_append,List.length_replicate,hr.out.1];omega
      have hxk:wr.cell? ⟨g1,o1+k,none⟩=some (.int .u64 (nth xs k)):=(hcellsW _ _ hg1').trans (hc1 k (by omega))
      have hout:wr.cell? ⟨w.heap.size,k,none⟩=some (.int .u64 (nth (zs ++ List.replicate (L1-k) 0) k)):=hrow.cell (by rw [hlen.out];omega)
      have hfr:wr.frozen? ⟨w.heap.size,k,none⟩=false:=hrow.frozen k
      have wxk:Hid (Word (nth xs k)):=wx1.out.nth k
      have wyk:Hid (Word (nth ys k)):=wx2.out.nth k
      have hrun:=fun (y:Int) (hy:y=nth ys k) (W:World)=>sub64_run (x:=nth xs k) (y:=y) (c:=cc) wxk.out (by rw [hy];exact wyk.out) ⟨cb0,cb1⟩ W
      have hnew:Hid (RowAt (wr.setCell ⟨w.heap.size,k,none⟩ (.int .u64 (lo64 (nth xs k-nth ys k-cc)))) w.heap.size ((zs ++ [lo64 (nth xs k-nth ys k-cc)]) ++ List.replicate (L1-(k+1)) 0)):=by
        have:=hrow.set k (lo64 (nth xs k-nth ys k-cc))
        rw [List.set_append_right _ _ (by rw [hr.out.1];omega),hr.out.1,Nat.sub_self,show L1-k=(L1-(k+1))+1 from by omega,List.replicate_succ,List.set_cons_zero] at this
        rw [List.append_assoc,List.singleton_append];exact this
      have hrel':Hid ((zs ++ [lo64 (nth xs k-nth ys k-cc)]).length=k+1∧Words (zs ++ [lo64 (nth xs k-nth ys k-cc)])∧val (zs ++ [lo64 (nth xs k-nth ys k-cc)])-wpow (k+1) * -hi64 (nth xs k-nth ys k-cc)=val (xs.take (k+1))-val (ys.take (k+1))):=by
        obtain ⟨r1,r2,r3⟩:=hr.out
        refine ⟨by simp [r1],r2.append (Words.nil.cons (lo64_word _)),?_⟩
        rw [val_append,r1,wpow_succ,val_take_more,val_take_more]
        have:=lo_hi (nth xs k-nth ys k-cc)
        simp only [val]
        grind
      have hbit:Hid (0≤-hi64 (nth xs k-nth ys k-cc)∧-hi64 (nth xs k-nth ys k-cc)≤1):=hi64_borrow wxk.out wyk.out ⟨cb0,cb1⟩
      have hbel':Hid (Below w.heap.size w wr):=hbel
      clear hr hlen hrow hbel
      by_cases hly:k<L2
      · obtain rfl:=a2 (by omega)
        have hyk:wr.cell? ⟨g2,o2+k,none⟩=some (.int .u64 (nth ys k)):=(hcellsW _ _ (hg2 (by omega))).trans (hc2 k (by omega))
        have hrun':=hrun _ rfl
        clear hrun hcellsW hfrozW
        go_wp2
        go_roundw
        case rel=>exact ⟨k+1,_,_,by omega,by go_num,rfl,hbit.out.1,hbit.out.2,by simpa using hG,hnew.out,hbel'.out.setCell (Nat.le_refl _) _,hrel'⟩
        case measure=>simp [intOf];omega
      · have hy0:Hid (nth ys k=0):=nth_ge (by have:=e2.out;omega)
        have hrun':=hrun 0 hy0.out.symm
        clear hrun hcellsW hfrozW
        simp only [hy0.out,Int.sub_zero] at hnew hrel' hbit
        go_wp2
        go_roundw
        case rel=>exact ⟨k+1,_,_,by omega,by go_num,rfl,hbit.out.1,hbit.out.2,by simpa using hG,hnew.out,hbel'.out.setCell (Nat.le_refl _) _,hrel'⟩
        case measure=>simp [intOf];omega
    · obtain rfl:L1=k:=by omega
      have hval:Hid (val zs=val xs-val ys):=by
        obtain ⟨r1,r2,r3⟩:=hr.out
        show _=_
        have hle:=HLE.out
        have z1:=val_lt r2
        have z0:=val_nonneg r2
        have x1:=val_lt wx1.out
        rw [e1.out] at x1
        rw [r1] at z1
        rw [val_take_all _ _ (by rw [e1.out];omega)] at r3
        have p:=wpow_pos L1
        have hyt:val (ys.take L1)=val ys:=by
          by_cases hl:L1≤ys.length
          · have s:=val_split ys L1 hl
            have t0:=val_nonneg (wx2.out.take L1)
            have d0:=val_nonneg (wx2.out.drop L1)
            rcases Int.lt_or_eq_of_le d0 with hd | hd
            · have:=imL (show 1≤val (ys.drop L1) by omega) (show 0≤wpow L1 by omega)
              omega
            · rw [←hd] at s;omega
          · exact val_take_all _ _ (by omega)
        rw [hyt] at r3
        rcases (show cc=0∨cc=1 by omega) with rfl | rfl<;>omega
      have hn:Hid (NatAt w.heap.size wr (.slice (some ⟨w.heap.size,0,none⟩) L1 L1) zs):=by
        rw [Nat.sub_self,List.replicate_zero,List.append_nil] at hrow
        exact hrow.nat (Nat.le_refl _) hr.out.2.1 _ (by simp [hr.out.1]) (by simp [hr.out.1];omega)
      have hbel':Hid (Below w.heap.size w wr):=hbel
      clear hr hrow hbel hcellsW hfrozW
      go_wp2_with fail
      refine (trim_calls hn.out).mono ?_
      rintro e w' ⟨v',rfl,hn',rfl⟩
      go_wp2
      go_ret
      refine ⟨_,rfl,?_,hbel'.out⟩
      rw [←hval.out];exact hn'
theorem mulstep{x y cc ov:Int}(hx:Word x)(hy:Word y)(hc:Word cc)(ho:Word ov) :
    ∃ h l l2 c2 o2 c3:Int,(∀ W,Calls Tryz.prog 161 #[.int .u64 x,.int .u64 y] W fun e w'=>e = .returned (.tuple #[.int .u64 h,.int .u64 l])∧W=w') ∧
      (∀ W,(callFunc 157 #[.int .u64 l,.int .u64 cc,.int .u64 0]).run Tryz.prog W = .ok (.value (.tuple #[.int .u64 l2,.int .u64 c2])) W) ∧
      (∀ W,(callFunc 157 #[.int .u64 ov,.int .u64 l2,.int .u64 0]).run Tryz.prog W = .ok (.value (.tuple #[.int .u64 o2,.int .u64 c3])) W) ∧
      0≤h∧0≤c2∧h+c2≤18446744073709551615∧0≤c3∧h+c2+c3≤18446744073709551615∧Hid (Word o2∧o2+18446744073709551616*(h+c2+c3)=ov+cc+x*y):=by
  have e1:=lo_hi (x*y)
  have e2:=lo_hi (lo64 (x*y)+cc+0)
  have e3:=lo_hi (ov+lo64 (lo64 (x*y)+cc+0)+0)
  have w1:=lo64_word (x*y)
  have w2:=lo64_word (lo64 (x*y)+cc+0)
  have w3:=lo64_word (ov+lo64 (lo64 (x*y)+cc+0)+0)
  have b2:=hi64_bit w1 hc (c:=0) ⟨by omega,by omega⟩
  have b3:=hi64_bit ho w2 (c:=0) ⟨by omega,by omega⟩
  refine ⟨_,_,_,_,_,_,fun W=>mul64_calls x y W hx hy,add64_run w1 hc ⟨by omega,by omega⟩,add64_run ho w2 ⟨by omega,by omega⟩,?_⟩
  have p0:0≤x*y:=Int.mul_nonneg hx.1 hy.1
  have p1:x*y≤18446744073709551615*18446744073709551615:=by
    have:=hx.2;have:=hy.2
    exact Int.mul_le_mul (by omega) (by omega) hy.1 (by omega)
  have h0:0≤hi64 (x*y):=by unfold hi64;omega
  have hc2:=hc.2;have hc1:=hc.1;have ho1:=ho.1;have ho2:=ho.2
  generalize x*y=P at *
  generalize hi64 P=H at *
  generalize lo64 P=Lw at *
  generalize hi64 (Lw+cc+0)=C2 at *
  generalize lo64 (Lw+cc+0)=L2 at *
  generalize hi64 (ov+L2+0)=C3 at *
  generalize lo64 (ov+L2+0)=O2 at *
  have:=w1.1;have:=w1.2;have:=w2.1;have:=w2.2;have:=w3.1;have:=w3.2
  refine ⟨h0,b2.1,?_,b3.1,?_,w3,?_⟩<;>omega
theorem mul_inner{outs Y:List Int}{k j:Nat}{V x cc o2 cn:Int}(hk:k+j<outs.length)(_:j<Y.length)
    (hv:val outs+wpow (k+j)*cc=V+wpow k*(x*val (Y.take j))) (he:o2+18446744073709551616*cn=nth outs (k+j)+cc+x*nth Y j) :
    val (outs.set (k+j) o2)+wpow (k+(j+1))*cn=V+wpow k*(x*val (Y.take (j+1))):=by
  rw [val_set _ _ _ hk,val_take_more,wpow_add k (j+1),wpow_succ]
  rw [wpow_add] at hv ⊢
  generalize wpow k=A at *
  generalize wpow j=B at *
  generalize val outs=a at *
  generalize val (Y.take j)=b at *
  generalize nth outs (k+j)=c at *
  generalize nth Y j=d at *
  have:A*B*(o2+18446744073709551616*cn)=A*B*(c+cc+x*d):=by rw [he]
  grind
set_option maxHeartbeats 3200000 in
theorem lmul_calls{B B':Nat}{w:World}{v v':Value}{xs ys:List Int}(h:NatAt B w v xs)(h':NatAt B' w v' ys)(hm:(ws (val xs)).length+(ws (val ys)).length≤17592186044415) :
    Calls Tryz.prog 146 #[v,v'] w (RNat w (ws (val xs*val ys))):=by
  have hvx:=val_nonneg h.words
  have hvy:=val_nonneg h'.words
  go_enter Tryz.func146,Tryz.ntmps146
  go_wp2_with fail
  refine (trim_calls h).mono ?_
  rintro e w' ⟨v1,rfl,hn,rfl⟩
  go_wp2_with fail
  refine (trim_calls h').mono ?_
  rintro e w' ⟨v2,rfl,hn',rfl⟩
  clear h h'
  obtain ⟨A1,L1,c1,g1,o1,rfl,a1,k1,q1,l1,hg1,hc1,e1,wx⟩:=hn.sub
  obtain ⟨A2,L2,c2,g2,o2,rfl,a2,k2,q2,l2,hg2,hc2,e2,wy⟩:=hn'.sub
  have vx:Hid (val (ws (val xs))=val xs):=val_ws hvx
  have vy:Hid (val (ws (val ys))=val ys):=val_ws hvy
  have hm':L1+L2≤17592186044415:=by have:=e1.out;have:=e2.out;omega
  clear hn hn' hvx hvy hm
  generalize val xs=nx at *
  generalize val ys=ny at *
  generalize ws nx=X at *
  generalize ws ny=Y at *
  have hmk:=make_run 22 Tryz.underlying22 (L1+L2) (by omega)
  rw [show ((L1+L2:Nat):Int)=(L1:Int)+(L2:Int) from by omega] at hmk
  go_wp2
  go_loopw [26] (fun i wr=>∃ (k:Nat) (outs:List Int),k≤L1∧i = .int .i64 k∧w.heap.size<wr.heap.size∧RowAt wr w.heap.size outs∧Below w.heap.size w wr∧Hid (outs.length=L1+L2∧Words outs∧val outs=val (X.take k)*val Y∧∀ j,k+L2≤j→nth outs j=0)) (fun i _=>L1-(intOf i).toNat)
  case atStart =>
    refine ⟨0,List.replicate (L1+L2) 0,by omega,rfl,by simp,RowAt.made _ _,below_also _ _,by simp,Words.zeros _,?_,fun j _=>nth_zeros _ _⟩
    rw [val_zeros];simp [val]
  case round =>
    obtain ⟨k,outs,hk,rfl,hG,hrow,hbel,hr⟩:=hrel
    obtain ⟨wo,rfl⟩:∃ wo:World,wo=wr:=⟨_,rfl⟩
    by_cases hlt:k<L1
    · obtain rfl:=a1 (by omega)
      have hg1':=hg1 (by omega)
      have hxk:wo.cell? ⟨g1,o1+k,none⟩=some (.int .u64 (nth X k)):=((bcell hbel).1 _ _ hg1').trans (hc1 k hlt)
      go_wp2
      go_loopw [8,33] (fun c j wr=>∃ (t:Nat) (cc:Int) (os:List Int),t≤L2∧j = .int .i64 t∧c = .int .u64 cc∧w.heap.size<wr.heap.size∧RowAt wr w.heap.size os∧Below w.heap.size w wr∧Hid (Word cc∧os.length=L1+L2∧Words os∧val os+wpow (k+t)*cc=val outs+wpow k*(nth X k*val (Y.take t))∧∀ j,k+t≤j→nth os j=nth outs j)) (fun _ j _=>L2-(intOf j).toNat)
      case atStart =>
        obtain ⟨r1,r2,r3,r4⟩:=hr.out
        refine ⟨0,0,outs,by omega,rfl,rfl,hG,hrow,hbel,⟨by omega,by omega⟩,r1,r2,?_,fun _ _=>rfl⟩
        simp [val]
      case round =>
        obtain ⟨t,cc,os,ht,rfl,rfl,hG',hrow',hbel',hr'⟩:=hrel
        by_cases hlt2:t<L2
        · obtain rfl:=a2 (by omega)
          have hg2':=hg2 (by omega)
          have hyk:wr.cell? ⟨g2,o2+t,none⟩=some (.int .u64 (nth Y t)):=((bcell hbel').1 _ _ hg2').trans (hc2 t hlt2)
          have hlen:k+t<os.length:=by rw [hr'.out.2.1];omega
          have hout:wr.cell? ⟨w.heap.size,k+t,none⟩=some (.int .u64 (nth os (k+t))):=hrow'.cell hlen
          have hfr:wr.frozen? ⟨w.heap.size,k+t,none⟩=false:=hrow'.frozen _
          obtain ⟨hh,l,l2,cc2,on,cc3,hmul,hadd1,hadd2,p1,p2,p3,p4,p5,hfin⟩:=mulstep (wx.out.nth k) (wy.out.nth t) hr'.out.1 (hr'.out.2.2.1.nth (k+t))
          have hnew:Hid (RowAt (wr.setCell ⟨w.heap.size,k+t,none⟩ (.int .u64 on)) w.heap.size (os.set (k+t) on)):=hrow'.set _ _
          have hbel2:Hid (Below w.heap.size w wr):=hbel'
          have hrel':Hid (Word (hh+cc2+cc3)∧(os.set (k+t) on).length=L1+L2∧Words (os.set (k+t) on)∧val (os.set (k+t) on)+wpow (k+(t+1))*(hh+cc2+cc3)=val outs+wpow k*(nth X k*val (Y.take (t+1)))∧∀ j,k+(t+1)≤j→nth (os.set (k+t) on) j=nth outs j):=by
            obtain ⟨q1,q2,q3,q4,q5⟩:=hr'.out
            obtain ⟨f1,f2⟩:=hfin.out
            refine ⟨⟨by omega,by omega⟩,by simp [q2],q3.set _ f1,mul_inner hlen (by rw [e2.out];omega) q4 f2,fun j hj=>?_⟩
            rw [nth_set_ne _ (by omega),q5 j (by omega)]
          clear hfin hr' hrow' hbel' hlen hr hrow hbel hxk
          have HM:=Lib.hid hmul;clear hmul
          go_wp2_with fail
          refine (HM.out _).mono ?_
          rintro e w' ⟨rfl,rfl⟩
          go_wp2
          go_roundw
          case rel=>exact ⟨t+1,_,_,by omega,by go_num,rfl,by simpa using hG',hnew.out,hbel2.out.setCell (Nat.le_refl _) _,hrel'⟩
          case measure=>simp [intOf];omega
        · obtain rfl:L2=t:=by omega
          have hlen:k+L2<os.length:=by rw [hr'.out.2.1];omega
          have hout:wr.cell? ⟨w.heap.size,k+L2,none⟩=some (.int .u64 (nth os (k+L2))):=hrow'.cell hlen
          have hfr:wr.frozen? ⟨w.heap.size,k+L2,none⟩=false:=hrow'.frozen _
          have hnew:Hid (RowAt (wr.setCell ⟨w.heap.size,k+L2,none⟩ (.int .u64 cc)) w.heap.size (os.set (k+L2) cc)):=hrow'.set _ _
          have hbel2:Hid (Below w.heap.size w wr):=hbel'
          have hrel':Hid ((os.set (k+L2) cc).length=L1+L2∧Words (os.set (k+L2) cc)∧val (os.set (k+L2) cc)=val (X.take (k+1))*val Y∧∀ j,k+1+L2≤j→nth (os.set (k+L2) cc) j=0):=by
            obtain ⟨q1,q2,q3,q4,q5⟩:=hr'.out
            obtain ⟨r1,r2,r3,r4⟩:=hr.out
            refine ⟨by simp [q2],q3.set _ q1,?_,fun j hj=>?_⟩
            · rw [val_set _ _ _ hlen,q5 _ (Nat.le_refl _),r4 _ (Nat.le_refl _),val_take_more]
              rw [val_take_all _ _ (by rw [e2.out];omega),r3] at q4
              grind
            · rw [nth_set_ne _ (by omega),q5 j (by omega),r4 j (by omega)]
          clear hr' hrow' hbel' hlen hr hrow hbel hxk
          go_wp2
          go_roundw
          case rel=>exact ⟨k+1,_,by omega,by go_num,by simpa using hG',hnew.out,hbel2.out.setCell (Nat.le_refl _) _,hrel'⟩
          case measure=>simp [intOf];omega
    · obtain rfl:L1=k:=by omega
      obtain ⟨r1,r2,r3,r4⟩:=hr.out
      have hn:Hid (NatAt w.heap.size wo (.slice (some ⟨w.heap.size,0,none⟩) (L1+L2) (L1+L2)) outs):=hrow.nat (Nat.le_refl _) r2 _ r1 (by rw [r1];omega)
      have hval:Hid (val outs=nx*ny):=by
        show _=_
        rw [r3,val_take_all _ _ (by rw [e1.out];omega),vx.out,vy.out]
      have hbel2:Hid (Below w.heap.size w wo):=hbel
      clear hr r1 r2 r3 r4 hrow hbel
      go_wp2_with fail
      refine (trim_calls hn.out).mono ?_
      rintro e w' ⟨v',rfl,hn',rfl⟩
      go_wp2
      go_ret
      refine ⟨_,rfl,?_,hbel2.out⟩
      rw [←hval.out];exact hn'
theorem or_disjoint{a b c:Int}{r:Nat}(ha0:0≤a)(ha:a<2^r)(hb:b=2^r*c)(hc:0≤c)(hb64:b<18446744073709551616)(hr:r≤64):bits BinOp.or IntKind.u64 a b=a+b:=by
  have p:=two_pow_pos r
  have hb0:0≤b:=by rw [hb];exact Int.mul_nonneg (by omega) hc
  have ha64:a<18446744073709551616:=by
    have:=two_pow_le hr
    have e:(2:Int)^64=18446744073709551616:=by decide
    omega
  obtain ⟨a,rfl⟩:=Int.eq_ofNat_of_zero_le ha0
  obtain ⟨b,rfl⟩:=Int.eq_ofNat_of_zero_le hb0
  obtain ⟨c,rfl⟩:=Int.eq_ofNat_of_zero_le hc
  rw [bits_or_u64_nat a b (by omega) (by omega)]
  have hb':b=2^r*c:=by
    have:((b:Nat):Int)=((2^r*c:Nat):Int):=by rw [hb];simp
    exact_mod_cast this
  have ha':a<2^r:=by
    have:((a:Nat):Int)<((2^r:Nat):Int):=by rw [two_pow_cast];exact ha
    exact_mod_cast this
  have:=Nat.two_pow_add_eq_or_of_lt ha' c
  rw [Nat.or_comm,hb',←this]
  simp;omega
theorem wrap_lo(x:Int):IntKind.u64.wrap x=lo64 x:=by rw [IntKind.wrap_u64];rfl
theorem shl_word{x:Int}{r:Nat}(hx:Word x)(hr:r<64) :
    (∃ c,0≤c∧lo64 (x*2^r)=2^r*c)∧lo64 (x*2^r)+18446744073709551616*(x/2^(64-r))=x*2^r∧x/2^(64-r)<2^r∧0≤x/2^(64-r):=by
  have p:=two_pow_pos r
  have p2:=two_pow_pos (64-r)
  have e:(18446744073709551616:Int)=2^r*2^(64-r):=by
    rw [←Int.pow_add,show r+(64-r)=64 from by omega];decide
  have h0:=hx.1;have h1:=hx.2
  have d0:0≤x/2^(64-r):=Int.ediv_nonneg h0 (by omega)
  have key:lo64 (x*2^r)=2^r*(x % 2^(64-r)):=by
    unfold lo64
    rw [e,Int.mul_comm x,Int.mul_emod_mul_of_pos _ _ p]
  refine ⟨⟨x % 2^(64-r),Int.emod_nonneg _ (by omega),key⟩,?_,?_,d0⟩
  · rw [key,e]
    have:=Int.mul_ediv_add_emod x (2^(64-r))
    generalize x/2^(64-r)=A at *
    generalize x % 2^(64-r)=M at *
    generalize (2:Int)^(64-r)=Q at *
    rw [←this];grind
  · rw [e] at h1
    exact Int.ediv_lt_of_lt_mul p2 h1
theorem shl_step{outs X:List Int}{q k r:Nat}{V:Int}(hr:r<64)(hw:Words outs)(hX:Word (nth X k))(hlen:q+k+1<outs.length)
    (hv:val outs=wpow q*(val (X.take k)*2^r)) (ho:nth outs (q+k)<2^r) (hz:∀ j,q+k<j→nth outs j=0)
    (hV:V=bits BinOp.or IntKind.u64 (nth outs (q+k)) (IntKind.u64.wrap (nth X k*2^r))) :
    Word V∧Word (nth X k/2^(64-r))∧val ((outs.set (q+k) V).set (q+k+1) (nth X k/2^(64-r)))=wpow q*(val (X.take (k+1))*2^r)∧nth X k/2^(64-r)<2^r:=by
  obtain ⟨⟨c,hc0,hc⟩,s2,s3,s4⟩:=shl_word hX hr
  have w1:=lo64_word (nth X k*2^r)
  have o1:=hw.nth (q+k)
  rw [wrap_lo,or_disjoint o1.1 ho hc hc0 w1.2 (by omega)] at hV
  have hlt:nth outs (q+k)+lo64 (nth X k*2^r)<18446744073709551616:=by
    have p:=two_pow_pos r
    have e:(18446744073709551616:Int)=2^r*2^(64-r):=by
      rw [←Int.pow_add,show r+(64-r)=64 from by omega];decide
    have hb:=w1.2
    rw [hc,e] at hb
    have:c<2^(64-r):=Int.lt_of_mul_lt_mul_left hb (by omega)
    have:=imL (show c+1≤2^(64-r) by omega) (show 0≤(2:Int)^r by omega)
    rw [hc,e];rw [Int.mul_add] at this;omega
  have wd:Word (nth X k/2^(64-r)):=by
    refine ⟨s4,?_⟩
    have:=two_pow_le (j:=r) (k:=64) (by omega)
    have e:(2:Int)^64=18446744073709551616:=by decide
    omega
  refine ⟨by rw [hV];exact ⟨by have:=o1.1;have:=w1.1;omega,hlt⟩,wd,?_,s3⟩
  rw [val_set _ _ _ (by simp;omega),val_set _ _ _ (by omega),nth_set_ne _ (by omega),hz (q+k+1) (by omega),hv,val_take_more,hV,show q+k+1=q+(k+1) from rfl,wpow_add q (k+1),wpow_succ,wpow_add q k]
  generalize wpow q=A at *
  generalize wpow k=B at *
  generalize val (X.take k)=a at *
  have:A*B*(lo64 (nth X k*2^r)+18446744073709551616*(nth X k/2^(64-r)))=A*B*(nth X k*2^r):=by rw [s2]
  generalize nth X k/2^(64-r)=hi at *
  generalize lo64 (nth X k*2^r)=lo at *
  grind
theorem shl_step0{outs X:List Int}{q k:Nat}{V:Int}(hw:Words outs)(hX:Word (nth X k))(hlen:q+k+1<outs.length)
    (hv:val outs=wpow q*(val (X.take k)*2^0)) (ho:nth outs (q+k)<2^0)
    (hV:V=bits BinOp.or IntKind.u64 (nth outs (q+k)) (IntKind.u64.wrap (nth X k*2^0))) :
    Word V∧val (outs.set (q+k) V)=wpow q*(val (X.take (k+1))*2^0):=by
  have o1:=hw.nth (q+k)
  have h0:=o1.1
  have hz:nth outs (q+k)=0:=by simp at ho;omega
  have e:IntKind.u64.wrap (nth X k*2^0)=nth X k:=by
    rw [wrap_lo];unfold lo64;have:=hX.1;have:=hX.2;simp;omega
  rw [e,or_disjoint (r:=0) (c:=nth X k) h0 ho (by simp) hX.1 hX.2 (by omega),hz,Int.zero_add] at hV
  refine ⟨by rw [hV];exact hX,?_⟩
  rw [val_set _ _ _ (by omega),hv,hz,hV,val_take_more,wpow_add]
  simp;grind
set_option maxHeartbeats 1600000 in
theorem lshl_calls{B:Nat}{w:World}{v:Value}{xs:List Int}(n:Int)(q r:Nat)(h:NatAt B w v xs)(hn0:0≤n)(hn:n≤1099511627776)(hq:n/64=(q:Int))(hr:n % 64=(r:Int))(hl:(ws (val xs)).length≤8796093022208) :
    Calls Tryz.prog 142 #[v,.int .i64 n] w (RNat w (ws (val xs*2^n.toNat))):=by
  have hvx:=val_nonneg h.words
  go_enter Tryz.func142,Tryz.ntmps142
  go_wp2_with fail
  refine (trim_calls h).mono ?_
  rintro e w' ⟨v1,rfl,hn1,rfl⟩
  clear h
  by_cases hx:ws (val xs) = []
  · obtain ⟨A,c,rfl,hc⟩:=hn1.open0 hx
    have hz:Hid (val xs=0):=(ws_eq_nil hvx).1 hx
    clear hx hn1 hl
    go_wp2
    go_ret
    refine ⟨_,rfl,?_,Below.refl _ _⟩
    rw [hz.out,Int.zero_mul,ws_zero];exact NatAt.nil _ _
  · have hp:0<(ws (val xs)).length:=List.length_pos_iff.2 hx
    obtain ⟨g,o,m,c,rfl,hm,hc,hcap,hlen0,hB,hg,hcell⟩:=hn1.open1 hp
    have wx:Hid (Words (ws (val xs))):=hn1.words
    have vx:Hid (val (ws (val xs))=val xs):=val_ws hvx
    have hm':m≤8796093022208:=by have:=hm.out;omega
    have hq':(q:Int)≤17179869184:=by omega
    have hr':(r:Int)<64:=by omega
    clear hn1 hvx hl hx hp
    generalize val xs=nx at *
    generalize ws nx=X at *
    have hmk:=make_run 22 Tryz.underlying22 (q+(m+1)+1) (by omega)
    rw [show ((q+(m+1)+1:Nat):Int)=(q:Int)+((m:Int)+1)+1 from by omega] at hmk
    go_wp2
    simp only [hq,hr]
    go_loopw [25] (fun i wr=>∃ (k:Nat) (outs:List Int),k≤m+1∧i = .int .i64 k∧w.heap.size<wr.heap.size∧RowAt wr w.heap.size outs∧Below w.heap.size w wr∧Hid (outs.length=q+(m+1)+1∧Words outs∧val outs=wpow q*(val (X.take k)*2^r)∧nth outs (q+k)<2^r∧∀ j,q+k<j→nth outs j=0)) (fun i _=>m+1-(intOf i).toNat)
    case atStart =>
      refine ⟨0,List.replicate (q+(m+1)+1) 0,by omega,rfl,by simp,RowAt.made _ _,below_also _ _,by simp,Words.zeros _,?_,?_,fun j _=>nth_zeros _ _⟩
      · rw [val_zeros];simp [val]
      · rw [nth_zeros];exact two_pow_pos r
    case round =>
      obtain ⟨k,outs,hk,rfl,hG,hrow,hbel,hrr⟩:=hrel
      by_cases hlt:k<m+1
      · have hxk:wr.cell? ⟨g,o+k,none⟩=some (.int .u64 (nth X k)):=((bcell hbel).1 _ _ hg).trans (hcell k hlt)
        have hlen:q+k<outs.length:=by rw [hrr.out.1];omega
        have hout:wr.cell? ⟨w.heap.size,q+k,none⟩=some (.int .u64 (nth outs (q+k))):=hrow.cell hlen
        have hfr:wr.frozen? ⟨w.heap.size,q+k,none⟩=false:=hrow.frozen _
        obtain ⟨V,hV⟩:∃ V,V=bits BinOp.or IntKind.u64 (nth outs (q+k)) (IntKind.u64.wrap (nth X k*2^r)):=⟨_,rfl⟩
        have hset:=hrow.set (q+k) V
        obtain ⟨r1,r2,r3,r4,r5⟩:=hrr.out
        have hbel2:Hid (Below w.heap.size w wr):=hbel
        by_cases hr0:0<r
        · have hr1:(0:Int)<(r:Int):=by omega
          have hlen2:q+k+1<outs.length:=by rw [r1];omega
          have hfr2:(wr.setCell ⟨w.heap.size,q+k,none⟩ (.int .u64 V)).drew.frozen? ⟨w.heap.size,q+k+1,none⟩=false:=hset.frozen _
          have hout2:(wr.setCell ⟨w.heap.size,q+k,none⟩ (.int .u64 V)).drew.cell? ⟨w.heap.size,q+k+1,none⟩=some (.int .u64 (nth (outs.set (q+k) V) (q+k+1))):=hset.cell (by simp;omega)
          obtain ⟨s1,s2,s3,s4⟩:=shl_step (by omega) r2 (wx.out.nth k) hlen2 r3 r4 r5 hV
          have hnew:Hid (RowAt ((wr.setCell ⟨w.heap.size,q+k,none⟩ (.int .u64 V)).setCell ⟨w.heap.size,q+k+1,none⟩ (.int .u64 (nth X k/2^(64-r)))) w.heap.size ((outs.set (q+k) V).set (q+k+1) (nth X k/2^(64-r)))):=hset.set _ _
          have hrel':Hid (((outs.set (q+k) V).set (q+k+1) (nth X k/2^(64-r))).length=q+(m+1)+1∧Words ((outs.set (q+k) V).set (q+k+1) (nth X k/2^(64-r)))∧val ((outs.set (q+k) V).set (q+k+1) (nth X k/2^(64-r)))=wpow q*(val (X.take (k+1))*2^r)∧nth ((outs.set (q+k) V).set (q+k+1) (nth X k/2^(64-r))) (q+(k+1))<2^r∧∀ j,q+(k+1)<j→nth ((outs.set (q+k) V).set (q+k+1) (nth X k/2^(64-r))) j=0):=by
            refine ⟨by simp [r1],(r2.set _ s1).set _ s2,s3,?_,fun j hj=>?_⟩
            · rw [show q+(k+1)=q+k+1 from rfl,nth_set_eq _ (by simp;omega)];exact s4
            · rw [nth_set_ne _ (by omega),nth_set_ne _ (by omega),r5 _ (by omega)]
          have HV:=Lib.hid hV
          clear hset hrr r1 r2 r3 r4 r5 s1 s2 s3 s4 hrow hbel hV hlen hlen2
          go_wp2
          go_region
          rw [←HV.out]
          go_wp2
          exact ⟨⟨k+1,_,by omega,by go_num,by simpa using hG,hnew.out,((hbel2.out.setCell (Nat.le_refl _) _).setCell (Nat.le_refl _) _).drew,hrel'⟩,by simp [intOf];omega⟩
        · obtain rfl:r=0:=by omega
          have hV':Hid (V=bits BinOp.or IntKind.u64 (nth outs (q+k)) (IntKind.u64.wrap (nth X k))):=by
            show _=_
            rw [hV];simp
          obtain ⟨s1,s3⟩:=shl_step0 r2 (wx.out.nth k) (by rw [r1];omega) r3 r4 hV
          have hnew:Hid (RowAt (wr.setCell ⟨w.heap.size,q+k,none⟩ (.int .u64 V)) w.heap.size (outs.set (q+k) V)):=hset
          have hrel':Hid ((outs.set (q+k) V).length=q+(m+1)+1∧Words (outs.set (q+k) V)∧val (outs.set (q+k) V)=wpow q*(val (X.take (k+1))*2^0)∧nth (outs.set (q+k) V) (q+(k+1))<2^0∧∀ j,q+(k+1)<j→nth (outs.set (q+k) V) j=0):=by
            refine ⟨by simp [r1],r2.set _ s1,s3,?_,fun j hj=>?_⟩
            · rw [nth_set_ne _ (by omega),r5 _ (by omega)];simp
            · rw [nth_set_ne _ (by omega),r5 _ (by omega)]
          clear hset hrr r1 r2 r3 r4 r5 s1 s3 hrow hbel hV hlen
          go_wp2
          go_region
          rw [←hV'.out]
          go_wp2
          exact ⟨⟨k+1,_,by omega,by go_num,by simpa using hG,hnew.out,(hbel2.out.setCell (Nat.le_refl _) _).drew,hrel'⟩,by simp [intOf];omega⟩
      · obtain rfl:m+1=k:=by omega
        obtain ⟨r1,r2,r3,r4,r5⟩:=hrr.out
        have hn:Hid (NatAt w.heap.size wr (.slice (some ⟨w.heap.size,0,none⟩) (q+(m+1)+1) (q+(m+1)+1)) outs):=hrow.nat (Nat.le_refl _) r2 _ r1 (by rw [r1];omega)
        have hval:Hid (val outs=nx*2^n.toNat):=by
          show _=_
          rw [r3,val_take_all _ _ (by rw [hm.out];omega),vx.out,wpow_eq,show n.toNat=64*q+r from by omega,Int.pow_add]
          grind
        have hbel2:Hid (Below w.heap.size w wr):=hbel
        clear hrr r1 r2 r3 r4 r5 hrow hbel
        go_wp2_with fail
        refine (trim_calls hn.out).mono ?_
        rintro e w' ⟨v',rfl,hn',rfl⟩
        go_wp2
        go_ret
        refine ⟨_,rfl,?_,hbel2.out⟩
        rw [←hval.out];exact hn'
def lostB(a:Int)(k:Nat):Bool:=decide (a % 2^k≠0)
theorem lostB_zero(k:Nat):lostB 0 k=false:=by unfold lostB;simp
theorem lostB_tz{a:Int}(h:0<a)(k:Nat):lostB a k=decide ((tz a:Int)<(k:Int)):=by
  unfold lostB
  obtain ⟨m,hm,e⟩:=tz_spec h
  rw [Bool.eq_iff_iff]
  simp only [decide_eq_true_eq]
  constructor
  · intro h1
    by_cases hk:tz a<k
    · omega
    · exfalso;apply h1
      rw [e,show tz a=k+(tz a-k) from by omega,Int.pow_add,Int.mul_assoc]
      exact Int.mul_emod_right _ _
  · intro h1 h2
    obtain ⟨d,hd⟩:∃ d,k=tz a+(d+1):=⟨k-tz a-1,by omega⟩
    have hdv:(2:Int)^k∣a:=Int.dvd_of_emod_eq_zero h2
    obtain ⟨c,hc⟩:=hdv
    have p:=two_pow_pos (tz a)
    have e2:2^tz a*(2*m+1)=2^tz a*(2*(2^d*c)):=by
      rw [←e,hc,hd,Int.pow_add,Int.pow_succ];grind
    have:=Int.eq_of_mul_eq_mul_left (by omega) e2
    omega
theorem shr_word{y y':Int}{r:Nat}(hy:Word y)(_:Word y')(hr0:0<r)(hr:r<64) :
    ∃ V,V=bits BinOp.or IntKind.u64 (y/2^r) (IntKind.u64.wrap (y' * 2^(64-r)))∧Word V∧2^r*V+y % 2^r=y+18446744073709551616*(y' % 2^r):=by
  have p:=two_pow_pos r
  have p2:=two_pow_pos (64-r)
  have e:(18446744073709551616:Int)=2^(64-r)*2^r:=by
    rw [←Int.pow_add,show 64-r+r=64 from by omega];decide
  have h0:=hy.1;have h1:=hy.2
  have key:lo64 (y' * 2^(64-r))=2^(64-r)*(y' % 2^r):=by
    unfold lo64
    rw [e,Int.mul_comm y',Int.mul_emod_mul_of_pos _ _ p2]
  have d0:0≤y/2^r:=Int.ediv_nonneg h0 (by omega)
  have d1:y/2^r<2^(64-r):=by
    rw [e] at h1
    exact Int.ediv_lt_of_lt_mul p h1
  have m0:=Int.emod_nonneg y' (show (2:Int)^r≠0 by omega)
  have m1:=Int.emod_lt_of_pos y' p
  refine ⟨_,rfl,?_⟩
  have wl:=lo64_word (y' * 2^(64-r))
  rw [wrap_lo,or_disjoint d0 d1 key m0 wl.2 (by omega),key]
  have:=Int.mul_ediv_add_emod y (2^r)
  refine ⟨⟨?_,?_⟩,?_⟩
  · rw [key] at wl;have:=wl.1;omega
  · have:=imL (show y' % 2^r+1≤2^r by omega) (show 0≤(2:Int)^(64-r) by omega)
    rw [Int.mul_add] at this
    rw [e];omega
  · rw [e]
    generalize y/2^r=A at *
    generalize y % 2^r=M at *
    generalize y' % 2^r=M' at *
    generalize (2:Int)^(64-r)=Q at *
    grind
theorem shr_next{zs Y:List Int}{k r:Nat}{V:Int}(hl:zs.length=k)(hi:2^r*val zs+nth Y 0 % 2^r=val (Y.take k)+wpow k*(nth Y k % 2^r))
    (hV:2^r*V+nth Y k % 2^r=nth Y k+18446744073709551616*(nth Y (k+1) % 2^r)) :
    2^r*val (zs ++ [V])+nth Y 0 % 2^r=val (Y.take (k+1))+wpow (k+1)*(nth Y (k+1) % 2^r):=by
  rw [val_append,hl,val_take_more,wpow_succ]
  simp only [val,Int.mul_zero,Int.add_zero]
  have:wpow k*(2^r*V+nth Y k % 2^r)=wpow k*(nth Y k+18446744073709551616*(nth Y (k+1) % 2^r)):=by rw [hV]
  generalize nth Y 0 % 2^r=a at *
  generalize nth Y k % 2^r=b at *
  generalize nth Y (k+1) % 2^r=c at *
  grind
theorem shr_end{zs Y:List Int}{k r:Nat}(hl:Y.length=k)(hY:Words Y)(hr:r≤64)(hi:2^r*val zs+nth Y 0 % 2^r=val (Y.take k)+wpow k*(nth Y k % 2^r)):val zs=val Y/2^r:=by
  have p:=two_pow_pos r
  rw [nth_ge (show Y.length≤k by omega),val_take_all _ _ (by omega)] at hi
  simp only [Int.zero_emod,Int.mul_zero,Int.add_zero] at hi
  have hm:nth Y 0 % 2^r=val Y % 2^r:=by
    cases Y with
    | nil=>simp [nth,val]
    | cons y ys =>
      rw [nth_cons_zero,val_cons]
      have e:(18446744073709551616:Int)=2^r*2^(64-r):=by
        rw [←Int.pow_add,show r+(64-r)=64 from by omega];decide
      rw [e,Int.mul_assoc,Int.add_mul_emod_self_left]
  have h2:=Int.mul_ediv_add_emod (val Y) (2^r)
  rw [hm] at hi
  have:2^r*val zs=2^r*(val Y/2^r):=by omega
  exact Int.eq_of_mul_eq_mul_left (by omega) this
theorem shr_val{X:List Int}{q r:Nat}{n:Int}(hX:Words X)(hq:q≤X.length)(hn:n=64*q+r):val (X.drop q)/2^r=val X/2^n.toNat:=by
  have s:=val_split X q hq
  have a1:=val_lt (hX.take q)
  have a0:=val_nonneg (hX.take q)
  rw [List.length_take,Nat.min_eq_left hq] at a1
  have p:=wpow_pos q
  have e:val X/wpow q=val (X.drop q):=by
    rw [s,Int.add_mul_ediv_left _ _ (by omega),Int.ediv_eq_zero_of_lt a0 a1,Int.zero_add]
  rw [←e,Int.ediv_ediv_of_nonneg (by omega),wpow_eq,←Int.pow_add,show n.toNat=64*q+r from by omega]
theorem val_shr_zero{X:List Int}{q:Nat}{n:Int}(hX:Words X)(hq:X.length≤q)(hn:64*(q:Int)≤n):val X/2^n.toNat=0:=by
  have a1:=val_lt hX
  have a0:=val_nonneg hX
  have:=wpow_le hq
  rw [wpow_eq q] at this
  have:=two_pow_le (j:=64*q) (k:=n.toNat) (by omega)
  exact Int.ediv_eq_zero_of_lt a0 (by omega)
def RNatB(w:World)(xs:List Int)(b:Bool)(e:Ending)(w':World):Prop:=∃ v,e = .returned (.tuple #[v,.bool b])∧NatAt w.heap.size w' v xs∧Below w.heap.size w w'
set_option maxRecDepth 100000 in
set_option maxHeartbeats 1600000 in
theorem lshr_calls{B:Nat}{w:World}{v:Value}{xs:List Int}(n:Int)(q r:Nat)(hT:Tab w)(h:NatAt B w v xs)(hn0:0≤n)(hn:n≤9007199254740992)(hq:n/64=(q:Int))(hr:n % 64=(r:Int)) :
    Calls Tryz.prog 86 #[v,.int .i64 n] w (RNatB w (ws (val xs/2^n.toNat)) (lostB (val xs) n.toNat)):=by
  have hvx:=val_nonneg h.words
  have HT:Hid (Tab w):=hT
  clear hT
  go_enter Tryz.func86,Tryz.ntmps86
  go_wp2_with fail
  refine (trim_calls h).mono ?_
  rintro e w' ⟨v1,rfl,hn1,rfl⟩
  clear h
  by_cases hx:ws (val xs) = []
  · obtain ⟨A,c,rfl,hc⟩:=hn1.open0 hx
    have hz:Hid (val xs=0):=(ws_eq_nil hvx).1 hx
    clear hx hn1
    go_wp2
    go_ret2
    refine ⟨_,by rw [hz.out,lostB_zero];rfl,?_,Below.refl _ _⟩
    rw [hz.out,Int.zero_ediv,ws_zero];exact NatAt.nil _ _
  · have hp:0<(ws (val xs)).length:=List.length_pos_iff.2 hx
    have hlow:Hid (Calls Tryz.prog 85 #[v1] w fun e w'=>e = .returned (.int .i64 (tz (val xs)))∧w=w'):=by
      have:=low_calls HT.out hn1
      rwa [val_ws hvx] at this
    obtain ⟨g,o,m,c,rfl,hm,hc,hcap,hlen0,hB,hg,hcell⟩:=hn1.open1 hp
    have wx:Hid (Words (ws (val xs))):=hn1.words
    have vx:Hid (val (ws (val xs))=val xs):=val_ws hvx
    have hlost:Hid (lostB (val xs) n.toNat=decide ((tz (val xs):Int)<n)):=by
      show _=_
      rw [lostB_tz (ws_pos_of hp),Int.toNat_of_nonneg hn0]
    have hm':m+1≤17592186044415:=by omega
    have hr':(r:Int)<64:=by omega
    clear hn1 hx hp
    have ht0:0≤(tz (val xs):Int):=by omega
    generalize val xs=nx at *
    generalize tz nx=tn at *
    generalize ws nx=X at *
    go_wp2_with fail
    refine hlow.out.mono ?_
    rintro e w' ⟨rfl,rfl⟩
    clear hlow
    by_cases hql:q<m+1
    · have hq1:(q:Int)<(m:Int)+1:=by omega
      obtain ⟨M,hM⟩:∃ M,Hid (m+1=q+(M+1)):=⟨m-q,by show _=_;omega⟩
      have hlenY:Hid ((X.drop q).length=M+1):=by
        show _=_
        rw [List.length_drop,hm.out];have:=hM.out;omega
      have wy:Hid (Words (X.drop q)):=wx.out.drop q
      have hcY:∀ j,j<M+1→w.cell? ⟨g,o+q+j,none⟩=some (.int .u64 (nth (X.drop q) j)):=fun j hj=>by
        rw [nth_drop,Nat.add_assoc];exact hcell (q+j) (by have:=hM.out;omega)
      have hvY:Hid (val (X.drop q)/2^r=nx/2^n.toNat):=by
        show _=_
        rw [←vx.out];exact shr_val wx.out (by rw [hm.out];omega) (by omega)
      have hM':M+1≤17592186044415:=by have:=hM.out;omega
      clear HT hcell
      generalize X.drop q=Y at *
      have hmk:=make_run 22 Tryz.underlying22 (M+1) (by omega)
      rw [show ((M+1:Nat):Int)=(M:Int)+1 from by omega] at hmk
      go_wp2_with fail
      rw [show m+1-q=M+1 from by have:=hM.out;omega,show ((M+1:Nat):Int)=(M:Int)+1 from by omega]
      go_simp
      go_wp2
      simp only [hr]
      go_loopw [37] (fun i wr=>∃ (k:Nat) (zs:List Int),k≤M+1∧i = .int .i64 k∧w.heap.size<wr.heap.size∧RowAt wr w.heap.size (zs ++ List.replicate (M+1-k) 0)∧Below w.heap.size w wr∧Hid (zs.length=k∧Words zs∧2^r*val zs+nth Y 0 % 2^r=val (Y.take k)+wpow k*(nth Y k % 2^r))) (fun i _=>M+1-(intOf i).toNat)
      case atStart =>
        refine ⟨0,[],by omega,rfl,by simp,RowAt.made _ _,below_also _ _,rfl,Words.nil,?_⟩
        simp [val,wpow]
      case round =>
        obtain ⟨k,zs,hk,rfl,hG,hrow,hbel,hrr⟩:=hrel
        obtain ⟨r1,r2,r3⟩:=hrr.out
        by_cases hlt:k<M+1
        · have hyk:wr.cell? ⟨g,o+q+k,none⟩=some (.int .u64 (nth Y k)):=((bcell hbel).1 _ _ hg).trans (hcY k hlt)
          have hlen:(zs ++ List.replicate (M+1-k) 0).length=M+1:=by
            rw [List.length_append,List.length_replicate,r1];omega
          have hout:wr.cell? ⟨w.heap.size,k,none⟩=some (.int .u64 (nth (zs ++ List.replicate (M+1-k) 0) k)):=hrow.cell (by omega)
          have hfr:wr.frozen? ⟨w.heap.size,k,none⟩=false:=hrow.frozen _
          have hset:∀ x,RowAt (wr.setCell ⟨w.heap.size,k,none⟩ (.int .u64 x)) w.heap.size (zs ++ x :: List.replicate (M+1-(k+1)) 0):=fun x=>by
            have:=hrow.set k x
            rw [List.set_append_right _ _ (by omega),r1,Nat.sub_self,show M+1-k=(M+1-(k+1))+1 from by omega,List.replicate_succ,List.set_cons_zero] at this
            exact this
          have wyk:=wy.out.nth k
          have wyk1:=wy.out.nth (k+1)
          have hbel2:Hid (Below w.heap.size w wr):=hbel
          by_cases hr0:0<r
          · have hr1:(0:Int)<(r:Int):=by omega
            by_cases hk1:k+1<M+1
            · have hk2:(k:Int)+1<(M:Int)+1:=by omega
              have hset1:=hset (nth Y k/2^r)
              obtain ⟨V,hV,wV,eV⟩:=shr_word wyk wyk1 hr0 (by omega)
              have hyk1:(wr.setCell ⟨w.heap.size,k,none⟩ (.int .u64 (nth Y k/2^r))).drew.cell? ⟨g,o+q+(k+1),none⟩=some (.int .u64 (nth Y (k+1))):=((bcell (hbel.setCell (Nat.le_refl _) _)).1 _ _ hg).trans (hcY (k+1) hk1)
              have hout1:(wr.setCell ⟨w.heap.size,k,none⟩ (.int .u64 (nth Y k/2^r))).drew.cell? ⟨w.heap.size,k,none⟩=some (.int .u64 (nth Y k/2^r)):=by
                have:=hset1.cell (j:=k) (by simp;omega)
                rw [nth_append_right (by omega),r1,Nat.sub_self,nth_cons_zero] at this
                exact this
              have hfr1:(wr.setCell ⟨w.heap.size,k,none⟩ (.int .u64 (nth Y k/2^r))).drew.frozen? ⟨w.heap.size,k,none⟩=false:=hset1.frozen _
              have hnew:Hid (RowAt ((wr.setCell ⟨w.heap.size,k,none⟩ (.int .u64 (nth Y k/2^r))).setCell ⟨w.heap.size,k,none⟩ (.int .u64 V)) w.heap.size (zs ++ [V] ++ List.replicate (M+1-(k+1)) 0)):=by
                have:=hset1.set k V
                rw [List.set_append_right _ _ (by omega),r1,Nat.sub_self,List.set_cons_zero] at this
                rw [List.append_assoc];exact this
              have hrel':Hid ((zs ++ [V]).length=k+1∧Words (zs ++ [V])∧2^r*val (zs ++ [V])+nth Y 0 % 2^r=val (Y.take (k+1))+wpow (k+1)*(nth Y (k+1) % 2^r)):=⟨by simp [r1],r2.append (Words.nil.cons wV),shr_next r1 r3 eV⟩
              have HV:=Lib.hid hV
              clear hset hset1 hrr r1 r2 r3 hrow hbel hV hlen wyk wyk1 wV eV
              go_wp2
              go_region
              rw [←HV.out]
              go_wp2
              exact ⟨⟨k+1,_,by omega,by go_num,by simpa using hG,hnew.out,((hbel2.out.setCell (Nat.le_refl _) _).setCell (Nat.le_refl _) _).drew,hrel'⟩,by simp [intOf];omega⟩
            · have hk2:¬ ((k:Int)+1<(M:Int)+1):=by omega
              have wV:Word (nth Y k/2^r):=by
                have p:=two_pow_pos r
                have h0:=Int.ediv_nonneg wyk.1 (show 0≤(2:Int)^r by omega)
                have h1:=Int.ediv_le_self (b:=2^r) wyk.1
                have:=wyk.2
                exact ⟨h0,by omega⟩
              have eV:2^r*(nth Y k/2^r)+nth Y k % 2^r=nth Y k+18446744073709551616*(nth Y (k+1) % 2^r):=by
                rw [nth_ge (show Y.length≤k+1 by rw [hlenY.out];omega),Int.mul_ediv_add_emod];simp
              have hnew:Hid (RowAt (wr.setCell ⟨w.heap.size,k,none⟩ (.int .u64 (nth Y k/2^r))) w.heap.size (zs ++ [nth Y k/2^r] ++ List.replicate (M+1-(k+1)) 0)):=by
                rw [List.append_assoc];exact hset _
              have hrel':Hid ((zs ++ [nth Y k/2^r]).length=k+1∧Words (zs ++ [nth Y k/2^r])∧2^r*val (zs ++ [nth Y k/2^r])+nth Y 0 % 2^r=val (Y.take (k+1))+wpow (k+1)*(nth Y (k+1) % 2^r)):=⟨by simp [r1],r2.append (Words.nil.cons wV),shr_next r1 r3 eV⟩
              clear hset hrr r1 r2 r3 hrow hbel hlen wyk wyk1 wV eV
              go_wp2
              go_roundw
              case rel=>exact ⟨k+1,_,by omega,by go_num,by simpa using hG,hnew.out,hbel2.out.setCell (Nat.le_refl _) _,hrel'⟩
              case measure=>simp [intOf];omega
          · obtain rfl:r=0:=by omega
            have eV:2^0*nth Y k+nth Y k % 2^0=nth Y k+18446744073709551616*(nth Y (k+1) % 2^0):=by simp
            have hnew:Hid (RowAt (wr.setCell ⟨w.heap.size,k,none⟩ (.int .u64 (nth Y k))) w.heap.size (zs ++ [nth Y k] ++ List.replicate (M+1-(k+1)) 0)):=by
              rw [List.append_assoc];exact hset _
            have hrel':Hid ((zs ++ [nth Y k]).length=k+1∧Words (zs ++ [nth Y k])∧2^0*val (zs ++ [nth Y k])+nth Y 0 % 2^0=val (Y.take (k+1))+wpow (k+1)*(nth Y (k+1) % 2^0)):=⟨by simp [r1],r2.append (Words.nil.cons wyk),shr_next r1 r3 eV⟩
            clear hset hrr r1 r2 r3 hrow hbel hlen wyk wyk1 eV
            go_wp2
            go_roundw
            case rel=>exact ⟨k+1,_,by omega,by go_num,by simpa using hG,hnew.out,hbel2.out.setCell (Nat.le_refl _) _,hrel'⟩
            case measure=>simp [intOf];omega
        · obtain rfl:M+1=k:=by omega
          have hn1:Hid (NatAt w.heap.size wr (.slice (some ⟨w.heap.size,0,none⟩) (M+1) (M+1)) zs):=by
            rw [Nat.sub_self,List.replicate_zero,List.append_nil] at hrow
            exact hrow.nat (Nat.le_refl _) r2 _ r1 (by omega)
          have hval:Hid (val zs=nx/2^n.toNat):=by
            show _=_
            rw [←hvY.out];exact shr_end hlenY.out wy.out (by omega) r3
          have hbel2:Hid (Below w.heap.size w wr):=hbel
          clear hrr r1 r2 r3 hrow hbel
          go_wp2_with fail
          refine (trim_calls hn1.out).mono ?_
          rintro e w' ⟨v',rfl,hn',rfl⟩
          go_wp2
          go_ret2
          refine ⟨_,by rw [hlost.out];rfl,?_,hbel2.out⟩
          rw [←hval.out];exact hn'
    · have hv0:Hid (nx/2^n.toNat=0):=by
        show _=_
        rw [←vx.out];exact val_shr_zero (q:=q) wx.out (by rw [hm.out];omega) (by omega)
      go_wp2
      go_ret2
      refine ⟨_,by rw [hlost.out];rfl,?_,Below.refl _ _⟩
      rw [hv0.out,ws_zero];exact NatAt.nil _ _
structure Dig (p z t U:Int):Prop where
  p1:2147483648≤p
  p2:p<4294967296
  z1:0≤z
  z2:z<4294967296
  t1:0≤t
  t2:t<4294967296
  u1:0≤U
  u2:U<p*4294967296+z
def digQ(p z t U:Int):Int:=(U*4294967296+t)/(p*4294967296+z)
theorem digQ_le{p z t U q:Int}(d:Dig p z t U):q*(p*4294967296+z)≤U*4294967296+t↔q≤digQ p z t U:=by
  have:=d.p1;have:=d.z1
  exact (Int.le_ediv_iff_mul_le (by omega)).symm
theorem digQ_nonneg{p z t U:Int}(d:Dig p z t U):0≤digQ p z t U:=by
  have:=d.p1;have:=d.z1;have:=d.t1;have:=d.u1
  exact Int.ediv_nonneg (by omega) (by omega)
theorem digQ_lt{p z t U:Int}(d:Dig p z t U):digQ p z t U<4294967296:=by
  have:=d.p1;have:=d.z1;have:=d.t2;have:=d.u2
  refine Int.ediv_lt_of_lt_mul (by omega) ?_
  omega
theorem dig_stop{p z t U q r:Int}(d:Dig p z t U)(e:q*p+r=U)(hQ:digQ p z t U≤q)(h:q*z≤4294967296*r+t):q=digQ p z t U:=by
  have:q≤digQ p z t U:=(digQ_le d).1 (by rw [←e];grind)
  omega
theorem dig_down{p z t U q r:Int}(d:Dig p z t U)(e:q*p+r=U)(h:4294967296*r+t<q*z):digQ p z t U≤q-1:=by
  by_cases hq:digQ p z t U≤q-1
  · exact hq
  · have:=(digQ_le (q:=q) d).2 (by omega)
    rw [←e] at this;grind
theorem dig_break{p z t U q r:Int}(d:Dig p z t U)(e:q*p+r=U)(hQ:digQ p z t U≤q-1)(h:4294967296≤r+p):q-1=digQ p z t U:=by
  have h1:=d.p1;have h2:=d.z1;have h3:=d.z2;have h4:=d.u2;have h5:=d.t1
  have hq:(q-1)*p<4294967296*p:=by
    have:(q-1)*p=U-(r+p):=by rw [←e];grind
    omega
  have hlt:q-1<4294967296:=Int.lt_of_mul_lt_mul_right hq (by omega)
  refine dig_stop (r:=r+p) d (by rw [←e];grind) hQ ?_
  have:(q-1)*z≤4294967296*z:=imR (by omega) h2
  omega
theorem dig_rest{p z t U:Int}(d:Dig p z t U):0≤U*4294967296+t-digQ p z t U*(p*4294967296+z)∧U*4294967296+t-digQ p z t U*(p*4294967296+z)<p*4294967296+z:=by
  have h1:=d.p1;have h2:=d.z1
  have:=Int.mul_ediv_add_emod (U*4294967296+t) (p*4294967296+z)
  have m0:=Int.emod_nonneg (U*4294967296+t) (show p*4294967296+z≠0 by omega)
  have m1:=Int.emod_lt_of_pos (U*4294967296+t) (show 0<p*4294967296+z by omega)
  unfold digQ
  generalize (U*4294967296+t)/(p*4294967296+z)=Q at *
  generalize (U*4294967296+t) % (p*4294967296+z)=M at *
  generalize p*4294967296+z=Y at *
  rw [Int.mul_comm] at this
  omega
theorem wrap_small{x:Int}(h0:0≤x)(h1:x<18446744073709551616):IntKind.u64.wrap x=x:=by
  rw [IntKind.wrap_u64];omega
theorem dig_start{p z t U:Int}(d:Dig p z t U):0≤U/p∧digQ p z t U≤U/p∧U/p≤8589934592∧IntKind.u64.wrap (U/p*p)=U/p*p∧IntKind.u64.wrap (U-U/p*p)=U-U/p*p∧0≤U-U/p*p∧U-U/p*p<4294967296:=by
  have h1:=d.p1;have h2:=d.p2;have h3:=d.z1;have h4:=d.z2;have h5:=d.t1;have h6:=d.t2;have h7:=d.u1;have h8:=d.u2
  have e:=Int.mul_ediv_add_emod U p
  have m0:=Int.emod_nonneg U (show p≠0 by omega)
  have m1:=Int.emod_lt_of_pos U (show 0<p by omega)
  have q0:=Int.ediv_nonneg h7 (show 0≤p by omega)
  have qp:=Int.mul_nonneg q0 (show 0≤p by omega)
  have hU:U<18446744073709551616:=by omega
  rw [Int.mul_comm] at e
  have q1:U/p≤8589934592:=by
    by_cases hq:U/p≤8589934592
    · exact hq
    · have:=Int.mul_le_mul (show 8589934593≤U/p by omega) h1 (by omega) (by omega)
      omega
  refine ⟨q0,?_,q1,wrap_small (by omega) (by omega),wrap_small (by omega) (by omega),by omega,by omega⟩
  have key:U*4294967296+t<(U/p+1)*(p*4294967296+z):=by
    have e2:(U/p+1)*(p*4294967296+z)=(U/p*p)*4294967296+p*4294967296+(U/p+1)*z:=by grind
    have:0≤(U/p+1)*z:=Int.mul_nonneg (by omega) h3
    omega
  have:=Int.ediv_lt_of_lt_mul (show 0<p*4294967296+z by omega) key
  unfold digQ;omega
theorem dig_names{p z t U:Int}(d:Dig p z t U):∃ q m r:Int,IntKind.u64.wrap (U.tdiv p)=q∧IntKind.u64.wrap (q*p)=m∧IntKind.u64.wrap (U-m)=r ∧
    Hid (0≤q∧digQ p z t U≤q∧q≤8589934592∧True∧True∧0≤r∧r<4294967296)∧Hid (q*p+r=U):=by
  obtain ⟨a1,a2,a3,a4,a5,a6,a7⟩:=dig_start d
  have h1:=d.p1;have h7:=d.u1
  refine ⟨U/p,U/p*p,U-U/p*p,?_,a4,a5,⟨a1,a2,a3,trivial,trivial,a6,a7⟩,by show _=_;omega⟩
  rw [Int.tdiv_eq_ediv_of_nonneg h7];exact wrap_small a1 (by omega)
set_option maxRecDepth 100000 in
set_option maxHeartbeats 3200000 in
theorem div64_walk(hi lo y:Int)(s:Nat)(Y U T p z t1 t0 R1 R2 F1 Q1 Q0:Int)(w:World)(h0:0<hi)(h1:hi<y)(_:0≤lo)(hs:s<64)
    (hlead:Hid (∀ w,Calls Tryz.prog 158 #[.int .u64 y] w fun e w'=>e = .returned (.int .i64 (s:Int))∧w=w'))
    (hY:IntKind.u64.wrap (y*2^s)=Y) (hT:IntKind.u64.wrap (lo*2^s)=T) (_:0≤Y) (_:0≤T)
    (hp:Y/4294967296=p) (hz:bits BinOp.and IntKind.u64 Y 4294967295=z) (hU:bits BinOp.or IntKind.u64 (IntKind.u64.wrap (hi*2^s)) (lo/2^(64-s))=U)
    (ht1:T/4294967296=t1) (ht0:bits BinOp.and IntKind.u64 T 4294967295=t0) (pp:0<p) (_:0≤R1) (_:0≤U)
    (d1:Hid (Dig p z t1 U)) (d2:Hid (Dig p z t0 R1)) (k1:Hid (digQ p z t1 U=Q1)) (k2:Hid (digQ p z t0 R1=Q0)) (_:0≤R2)
    (hR1:IntKind.u64.wrap (IntKind.u64.wrap (IntKind.u64.wrap (U*4294967296)+t1)-IntKind.u64.wrap (Q1*Y))=R1)
    (hR2:IntKind.u64.wrap (IntKind.u64.wrap (IntKind.u64.wrap (R1*4294967296)+t0)-IntKind.u64.wrap (Q0*Y))=R2)
    (hF1:IntKind.u64.wrap (IntKind.u64.wrap (Q1*4294967296)+Q0)=F1) :
    Calls Tryz.prog 163 #[.int .u64 hi,.int .u64 lo,.int .u64 y] w fun e w'=>e = .returned (.tuple #[.int .u64 F1,.int .u64 (R2/2^s)])∧w=w':=by
  obtain ⟨qa,ma,ra,n1,n2,n3,sa1,sa2⟩:=dig_names d1.out
  obtain ⟨qb,mb,rb,n4,n5,n6,sb1,sb2⟩:=dig_names d2.out
  rw [k1.out] at sa1
  rw [k2.out] at sb1
  go_enter Tryz.func163,Tryz.ntmps163
  go_wp2_with fail
  refine (hlead.out _).mono ?_
  rintro e w' ⟨rfl,rfl⟩
  go_upto_block 0 with fail
  go_cut [15,16] (fun q r wx=>q = .int .u64 Q1∧(∃ r',r = .int .u64 r')∧w=wx)
  case first =>
    go_wp2_with fail
    go_loop [15,16] (fun q r=>∃ a b:Int,q = .int .u64 a∧r = .int .u64 b∧0≤a∧a≤8589934592∧0≤b∧b<4294967296∧Hid (a*p+b=U∧Q1≤a)) (fun q _=>(intOf q).toNat)
    case atStart=>exact ⟨_,_,rfl,rfl,sa1.out.1,sa1.out.2.2.1,sa1.out.2.2.2.2.2.1,sa1.out.2.2.2.2.2.2,sa2.out,sa1.out.2.1⟩
    case round =>
      obtain ⟨a,b,rfl,rfl,ha0,ha1,hb0,hb1,hr⟩:=hrel
      have hpp1:p<4294967296:=d1.out.p2
      have hz1:0≤z:=d1.out.z1
      have ht1':0≤t1:=d1.out.t1
      have ht2':t1<4294967296:=d1.out.t2
      by_cases hbig:4294967296≤a
      · have hdn:Hid (Q1≤a-1):=by
          show _≤_
          have:=digQ_lt d1.out;have:=k1.out;omega
        by_cases hbr:4294967296≤b+p
        · have hst:Hid (a-1=Q1):=by
            show _=_
            rw [←k1.out];exact dig_break d1.out hr.out.1 (by rw [k1.out];exact hdn.out) hbr
          go_wp2
          go_meet
          exact ⟨by rw [hst.out],⟨_,rfl⟩,rfl⟩
        · have hr':Hid ((a-1)*p+(b+p)=U∧Q1≤a-1):=⟨by rw [←hr.out.1];grind,hdn.out⟩
          go_wp2
          go_round
          case rel=>exact ⟨_,_,rfl,rfl,by omega,by omega,by omega,by omega,hr'⟩
          case measure=>simp [intOf];omega
      · have m0:0≤a*z:=Int.mul_nonneg ha0 hz1
        have m1:a*z<18446744073709551616:=by
          have:=Int.mul_le_mul (show a≤4294967295 by omega) (show z≤4294967295 by have:=d1.out.z2;omega) hz1 (by omega)
          omega
        obtain ⟨m,hm⟩:∃ m,m=a*z:=⟨_,rfl⟩
        have hmul:IntKind.u64.wrap (a*z)=m:=by rw [hm];exact wrap_small m0 m1
        have hmul2:IntKind.u64.wrap (4294967296*b)=4294967296*b:=wrap_small (by omega) (by omega)
        have hadd2:IntKind.u64.wrap (4294967296*b+t1)=4294967296*b+t1:=wrap_small (by omega) (by omega)
        have HM:=Lib.hid hm
        clear m0 m1
        by_cases hgt:4294967296*b+t1<m
        · have hdn:Hid (Q1≤a-1):=by
            show _≤_
            rw [←k1.out];exact dig_down d1.out hr.out.1 (by rw [←HM.out];exact hgt)
          have ha2:1≤a:=by have:=hdn.out;have:=digQ_nonneg d1.out;have:=k1.out;omega
          clear hm
          by_cases hbr:4294967296≤b+p
          · have hst:Hid (a-1=Q1):=by
              show _=_
              rw [←k1.out];exact dig_break d1.out hr.out.1 (by rw [k1.out];exact hdn.out) hbr
            go_wp2
            go_meet
            exact ⟨by rw [hst.out],⟨_,rfl⟩,rfl⟩
          · have hr':Hid ((a-1)*p+(b+p)=U∧Q1≤a-1):=⟨by rw [←hr.out.1];grind,hdn.out⟩
            go_wp2
            go_round
            case rel=>exact ⟨_,_,rfl,rfl,by omega,by omega,by omega,by omega,hr'⟩
            case measure=>simp [intOf];omega
        · have hst:Hid (a=Q1):=by
            show _=_
            rw [←k1.out];exact dig_stop d1.out hr.out.1 (by rw [k1.out];exact hr.out.2) (by rw [←HM.out];omega)
          clear hm
          go_wp2
          go_meet
          exact ⟨by rw [hst.out],⟨_,rfl⟩,rfl⟩
  case rest =>
    obtain ⟨rfl,⟨r',rfl⟩,rfl⟩:=hcut
    go_upto_block 2 with fail
    go_cut [18,16] (fun q r wx=>q = .int .u64 Q0∧(∃ r',r = .int .u64 r')∧w=wx)
    case first =>
      go_wp2_with fail
      go_loop [18,16] (fun q r=>∃ a b:Int,q = .int .u64 a∧r = .int .u64 b∧0≤a∧a≤8589934592∧0≤b∧b<4294967296∧Hid (a*p+b=R1∧Q0≤a)) (fun q _=>(intOf q).toNat)
      case atStart=>exact ⟨_,_,rfl,rfl,sb1.out.1,sb1.out.2.2.1,sb1.out.2.2.2.2.2.1,sb1.out.2.2.2.2.2.2,sb2.out,sb1.out.2.1⟩
      case round =>
        obtain ⟨a,b,rfl,rfl,ha0,ha1,hb0,hb1,hr⟩:=hrel
        have hpp1:p<4294967296:=d2.out.p2
        have hz1:0≤z:=d2.out.z1
        have ht1':0≤t0:=d2.out.t1
        have ht2':t0<4294967296:=d2.out.t2
        by_cases hbig:4294967296≤a
        · have hdn:Hid (Q0≤a-1):=by
            show _≤_
            have:=digQ_lt d2.out;have:=k2.out;omega
          by_cases hbr:4294967296≤b+p
          · have hst:Hid (a-1=Q0):=by
              show _=_
              rw [←k2.out];exact dig_break d2.out hr.out.1 (by rw [k2.out];exact hdn.out) hbr
            go_wp2
            go_meet
            exact ⟨by rw [hst.out],⟨_,rfl⟩,rfl⟩
          · have hr':Hid ((a-1)*p+(b+p)=R1∧Q0≤a-1):=⟨by rw [←hr.out.1];grind,hdn.out⟩
            go_wp2
            go_round
            case rel=>exact ⟨_,_,rfl,rfl,by omega,by omega,by omega,by omega,hr'⟩
            case measure=>simp [intOf];omega
        · have m0:0≤a*z:=Int.mul_nonneg ha0 hz1
          have m1:a*z<18446744073709551616:=by
            have:=Int.mul_le_mul (show a≤4294967295 by omega) (show z≤4294967295 by have:=d2.out.z2;omega) hz1 (by omega)
            omega
          obtain ⟨m,hm⟩:∃ m,m=a*z:=⟨_,rfl⟩
          have hmul:IntKind.u64.wrap (a*z)=m:=by rw [hm];exact wrap_small m0 m1
          have hmul2:IntKind.u64.wrap (4294967296*b)=4294967296*b:=wrap_small (by omega) (by omega)
          have hadd2:IntKind.u64.wrap (4294967296*b+t0)=4294967296*b+t0:=wrap_small (by omega) (by omega)
          have HM:=Lib.hid hm
          clear m0 m1
          by_cases hgt:4294967296*b+t0<m
          · have hdn:Hid (Q0≤a-1):=by
              show _≤_
              rw [←k2.out];exact dig_down d2.out hr.out.1 (by rw [←HM.out];exact hgt)
            have ha2:1≤a:=by have:=hdn.out;have:=digQ_nonneg d2.out;have:=k2.out;omega
            clear hm
            by_cases hbr:4294967296≤b+p
            · have hst:Hid (a-1=Q0):=by
                show _=_
                rw [←k2.out];exact dig_break d2.out hr.out.1 (by rw [k2.out];exact hdn.out) hbr
              go_wp2
              go_meet
              exact ⟨by rw [hst.out],⟨_,rfl⟩,rfl⟩
            · have hr':Hid ((a-1)*p+(b+p)=R1∧Q0≤a-1):=⟨by rw [←hr.out.1];grind,hdn.out⟩
              go_wp2
              go_round
              case rel=>exact ⟨_,_,rfl,rfl,by omega,by omega,by omega,by omega,hr'⟩
              case measure=>simp [intOf];omega
          · have hst:Hid (a=Q0):=by
              show _=_
              rw [←k2.out];exact dig_stop d2.out hr.out.1 (by rw [k2.out];exact hr.out.2) (by rw [←HM.out];omega)
            clear hm
            go_wp2
            go_meet
            exact ⟨by rw [hst.out],⟨_,rfl⟩,rfl⟩
    case rest =>
      obtain ⟨rfl,⟨r',rfl⟩,rfl⟩:=hcut
      go_wp2
      go_ret2
      exact ⟨rfl,rfl⟩
theorem and_half{a:Int}(h0:0≤a)(h1:a<18446744073709551616):bits BinOp.and IntKind.u64 a 4294967295=a % 4294967296:=by
  obtain ⟨n,rfl⟩:=Int.eq_ofNat_of_zero_le h0
  have:=bits_and_u64_nat n 4294967295 (by omega) (by omega)
  rw [show ((4294967295:Nat):Int)=4294967295 from rfl] at this
  rw [this,show n &&& 4294967295=n % 4294967296 from Nat.and_two_pow_sub_one_eq_mod n 32]
  omega
theorem two_digs{p z t1 t0 U R1:Int}(_:Dig p z t1 U)(hR:R1=U*4294967296+t1-digQ p z t1 U*(p*4294967296+z))(d2:Dig p z t0 R1) :
    digQ p z t1 U*4294967296+digQ p z t0 R1=(U*18446744073709551616+t1*4294967296+t0)/(p*4294967296+z) ∧
    R1*4294967296+t0-digQ p z t0 R1*(p*4294967296+z)=(U*18446744073709551616+t1*4294967296+t0) % (p*4294967296+z):=by
  obtain ⟨r1,r2⟩:=dig_rest d2
  have e:U*18446744073709551616+t1*4294967296+t0=(p*4294967296+z)*(digQ p z t1 U*4294967296+digQ p z t0 R1)+(R1*4294967296+t0-digQ p z t0 R1*(p*4294967296+z)):=by
    generalize digQ p z t1 U=A at *
    generalize digQ p z t0 R1=B at *
    grind
  rw [e]
  generalize R1*4294967296+t0-digQ p z t0 R1*(p*4294967296+z)=R at *
  generalize digQ p z t1 U*4294967296+digQ p z t0 R1=Q at *
  generalize p*4294967296+z=Y at *
  refine ⟨?_,?_⟩
  · rw [Int.mul_add_ediv_left _ _ (by omega),Int.ediv_eq_zero_of_lt r1 r2,Int.add_zero]
  · rw [Int.mul_add_emod_self_left,Int.emod_eq_of_lt r1 r2]
theorem wrap_of_mod{x r:Int}(k:Int)(h:x=r+18446744073709551616*k)(h0:0≤r)(h1:r<18446744073709551616):IntKind.u64.wrap x=r:=by
  rw [IntKind.wrap_u64];omega
theorem wrap_mod3(a t b:Int):∃ k,IntKind.u64.wrap (IntKind.u64.wrap a+t)-IntKind.u64.wrap b=a+t-b+18446744073709551616*k:=by
  simp only [IntKind.wrap_u64]
  exact ⟨-((a % 18446744073709551616+t)/18446744073709551616)-a/18446744073709551616+b/18446744073709551616,by omega⟩
theorem div64_glue{hi lo y:Int}(wh:Word hi)(wl:Word lo)(wy:Word y)(h0:0<hi)(h1:hi<y) :
    ∃ (s:Nat) (Y U T p z t1 t0 R1 R2 F1 Q1 Q0:Int),s<64∧(blen y:Int)+s=64 ∧
    IntKind.u64.wrap (y*2^s)=Y∧IntKind.u64.wrap (lo*2^s)=T∧0≤Y∧0≤T ∧
    Y/4294967296=p∧bits BinOp.and IntKind.u64 Y 4294967295=z∧bits BinOp.or IntKind.u64 (IntKind.u64.wrap (hi*2^s)) (lo/2^(64-s))=U ∧
    T/4294967296=t1∧bits BinOp.and IntKind.u64 T 4294967295=t0∧0<p∧0≤R1∧0≤U∧Dig p z t1 U∧Dig p z t0 R1∧digQ p z t1 U=Q1∧digQ p z t0 R1=Q0∧0≤R2 ∧
    IntKind.u64.wrap (IntKind.u64.wrap (IntKind.u64.wrap (U*4294967296)+t1)-IntKind.u64.wrap (Q1*Y))=R1 ∧
    IntKind.u64.wrap (IntKind.u64.wrap (IntKind.u64.wrap (R1*4294967296)+t0)-IntKind.u64.wrap (Q0*Y))=R2 ∧
    IntKind.u64.wrap (IntKind.u64.wrap (Q1*4294967296)+Q0)=F1 ∧
    F1=(hi*18446744073709551616+lo)/y∧R2/2^s=(hi*18446744073709551616+lo) % y:=by
  have hy0:0<y:=by omega
  have b1:=blen_pos hy0
  have b2:=blen_le (n:=y) (k:=64) (by have:=wy.2;have e:(2:Int)^64=18446744073709551616:=by decide
                                      omega)
  obtain ⟨s,hs⟩:∃ s,blen y+s=64:=⟨64-blen y,by omega⟩
  have ps:=two_pow_pos s
  have ps2:=two_pow_pos (64-s)
  have e64:(18446744073709551616:Int)=2^s*2^(64-s):=by
    rw [←Int.pow_add,show s+(64-s)=64 from by omega];decide
  have y1:=blen_ge hy0
  have y2:=blen_lt y
  have Yl:9223372036854775808≤y*2^s:=by
    have e:(9223372036854775808:Int)=2^(blen y-1)*2^s:=by
      rw [←Int.pow_add,show blen y-1+s=63 from by omega];decide
    rw [e];exact imR y1 (by omega)
  have Yu:y*2^s<18446744073709551616:=by
    have e:(18446744073709551616:Int)=2^blen y*2^s:=by
      rw [←Int.pow_add,hs];decide
    rw [e];exact Int.mul_lt_mul_of_pos_right y2 ps
  have hh:hi<2^(64-s):=by rw [show 64-s=blen y from by omega];omega
  have hUl:hi*2^s<18446744073709551616:=by
    rw [e64,Int.mul_comm (2^s)];exact Int.mul_lt_mul_of_pos_right hh ps
  have hUn:0≤hi*2^s:=Int.mul_nonneg wh.1 (by omega)
  have s2:lo64 (lo*2^s)+18446744073709551616*(lo/2^(64-s))=lo*2^s:=by
    have key:lo64 (lo*2^s)=2^s*(lo % 2^(64-s)):=by
      unfold lo64
      rw [e64,Int.mul_comm lo,Int.mul_emod_mul_of_pos _ _ ps]
    rw [key,e64]
    have:=Int.mul_ediv_add_emod lo (2^(64-s))
    generalize lo/2^(64-s)=A at *
    generalize lo % 2^(64-s)=M at *
    rw [←this];grind
  have g0:0≤lo/2^(64-s):=Int.ediv_nonneg wl.1 (by omega)
  have g1:lo/2^(64-s)<2^s:=by
    have:=wl.2;rw [e64] at this;exact Int.ediv_lt_of_lt_mul ps2 this
  have hor:bits BinOp.or IntKind.u64 (IntKind.u64.wrap (hi*2^s)) (lo/2^(64-s))=lo/2^(64-s)+hi*2^s:=by
    rw [wrap_small hUn hUl]
    have:=or_disjoint (a:=lo/2^(64-s)) (b:=hi*2^s) (c:=hi) (r:=s) g0 g1 (Int.mul_comm _ _) wh.1 hUl (by omega)
    rw [←this]
    obtain ⟨A,hA⟩:=Int.eq_ofNat_of_zero_le g0
    obtain ⟨Bn,hB⟩:=Int.eq_ofNat_of_zero_le hUn
    have hA2:(A:Int)<18446744073709551616:=by
      have:=two_pow_le (j:=s) (k:=64) (by omega)
      have e:(2:Int)^64=18446744073709551616:=by decide
      omega
    rw [hA,hB,bits_or_u64_nat _ _ (by omega) (by omega),bits_or_u64_nat _ _ (by omega) (by omega),Nat.or_comm]
  have hUlt:lo/2^(64-s)+hi*2^s<y*2^s:=by
    have:=imR (show hi+1≤y by omega) (show 0≤(2:Int)^s by omega)
    rw [Int.add_mul] at this;omega
  have wT:=lo64_word (lo*2^s)
  have hTw:IntKind.u64.wrap (lo*2^s)=lo64 (lo*2^s):=wrap_lo _
  have hN:(lo/2^(64-s)+hi*2^s)*18446744073709551616+lo64 (lo*2^s)=(hi*18446744073709551616+lo)*2^s:=by grind
  generalize lo64 (lo*2^s)=T at *
  generalize lo/2^(64-s)+hi*2^s=U at *
  have hU0:0≤U:=by
    by_cases h:0≤U
    · exact h
    · have n1:0≤(hi*18446744073709551616+lo)*2^s:=Int.mul_nonneg (by have:=wh.1;have:=wl.1;omega) (by omega)
      have:=wT.2;omega
  obtain ⟨Y,hY⟩:∃ Y,Y=y*2^s:=⟨_,rfl⟩
  rw [←hY] at Yl Yu hUlt
  have d1:Dig (Y/4294967296) (Y % 4294967296) (T/4294967296) U:=⟨by omega,by omega,by omega,by omega,by have:=wT.1;omega,by have:=wT.2;omega,hU0,by omega⟩
  obtain ⟨x1,x2⟩:=dig_rest d1
  obtain ⟨R1,hR1⟩:∃ R1,R1=U*4294967296+T/4294967296-digQ (Y/4294967296) (Y % 4294967296) (T/4294967296) U*(Y/4294967296*4294967296+Y % 4294967296):=⟨_,rfl⟩
  rw [←hR1] at x1 x2
  have d2:Dig (Y/4294967296) (Y % 4294967296) (T % 4294967296) R1:=⟨by omega,by omega,by omega,by omega,by omega,by omega,x1,x2⟩
  obtain ⟨x3,x4⟩:=dig_rest d2
  obtain ⟨f1,f2⟩:=two_digs d1 hR1 d2
  have eY:Y/4294967296*4294967296+Y % 4294967296=Y:=by omega
  have eT:U*18446744073709551616+T/4294967296*4294967296+T % 4294967296=(hi*18446744073709551616+lo)*2^s:=by rw [←hN];omega
  rw [eT,eY] at f1 f2
  rw [eY] at hR1 x3 x4
  have q1a:=digQ_nonneg d1;have q1b:=digQ_lt d1;have q0a:=digQ_nonneg d2;have q0b:=digQ_lt d2
  refine ⟨s,Y,U,T,_,_,_,_,R1,R1*4294967296+T % 4294967296-digQ (Y/4294967296) (Y % 4294967296) (T % 4294967296) R1*Y,_,_,_,by omega,by omega,?_,hTw,by omega,wT.1,rfl,and_half (by omega) Yu,hor,rfl,and_half wT.1 wT.2,by omega,x1,hU0,d1,d2,rfl,rfl,x3,?_,?_,rfl,?_,?_⟩
  · rw [←hY];exact wrap_small (by omega) Yu
  · obtain ⟨k,hk⟩:=wrap_mod3 (U*4294967296) (T/4294967296) (digQ (Y/4294967296) (Y % 4294967296) (T/4294967296) U*Y)
    exact wrap_of_mod k (by rw [hk,hR1]) x1 (by omega)
  · obtain ⟨k,hk⟩:=wrap_mod3 (R1*4294967296) (T % 4294967296) (digQ (Y/4294967296) (Y % 4294967296) (T % 4294967296) R1*Y)
    exact wrap_of_mod k (by rw [hk]) x3 (by omega)
  · rw [wrap_small (x:=digQ (Y/4294967296) (Y % 4294967296) (T/4294967296) U*4294967296) (by omega) (by omega),wrap_small (by omega) (by omega),f1,hY,Int.mul_ediv_mul_of_pos_left _ _ ps]
  · rw [f2,hY,Int.mul_comm (hi*_+lo),Int.mul_comm y,Int.mul_emod_mul_of_pos _ _ ps,Int.mul_ediv_cancel_left _ (by omega)]
set_option maxRecDepth 100000 in
set_option maxHeartbeats 1600000 in
theorem div64_low(lo y a b:Int)(w:World)(h0:0<y)(_:0≤lo)(ha:IntKind.u64.wrap (lo.tdiv y)=a)(hb:lo.tmod y=b) :
    Calls Tryz.prog 163 #[.int .u64 0,.int .u64 lo,.int .u64 y] w fun e w'=>∃ n,e = .returned (.tuple #[.int .u64 a,.int .u64 b])∧w'=w.drewN n:=by
  go_enter Tryz.func163,Tryz.ntmps163
  go_wp2
  go_quiet (fail)
  go_wp2
  go_ret2
  exact ⟨_,rfl,rfl⟩
theorem div64_calls{hi lo y:Int}(wh:Word hi)(wl:Word lo)(wy:Word y)(h1:hi<y)(w:World) :
    Calls Tryz.prog 163 #[.int .u64 hi,.int .u64 lo,.int .u64 y] w fun e w' =>
      e = .returned (.tuple #[.int .u64 ((hi*18446744073709551616+lo)/y),.int .u64 ((hi*18446744073709551616+lo) % y)])∧∃ n,w'=w.drewN n:=by
  by_cases h0:0<hi
  · obtain ⟨s,Y,U,T,p,z,t1,t0,R1,R2,F1,Q1,Q0,hs,hb,c1,c2,c3,c4,c5,c6,c7,c8,c9,c10,c11,c12,c13,c14,c15,c16,c17,c18,c19,c20,f1,f2⟩:=div64_glue wh wl wy h0 h1
    refine (div64_walk hi lo y s Y U T p z t1 t0 R1 R2 F1 Q1 Q0 w h0 h1 wl.1 hs (fun w=>?_) c1 c2 c3 c4 c5 c6 c7 c8 c9 c10 c11 c12 c13 c14 c15 c16 c17 c18 c19 c20).mono ?_
    · refine (lead64_calls y w wy).mono ?_
      rintro e w' ⟨rfl,rfl⟩
      exact ⟨by rw [show (64:Int)-(blen y:Int)=(s:Int) from by omega],rfl⟩
    · rintro e w' ⟨rfl,rfl⟩
      exact ⟨by rw [f1,f2],0,rfl⟩
  · obtain rfl:hi=0:=by have:=wh.1;omega
    have q0:=Int.ediv_nonneg wl.1 (show 0≤y by omega)
    have q1:lo/y≤lo:=Int.ediv_le_self _ wl.1
    refine (div64_low lo y (lo/y) (lo % y) w h1 wl.1 ?_ ?_).mono ?_
    · rw [Int.tdiv_eq_ediv_of_nonneg wl.1];exact wrap_small q0 (by have:=wl.2;omega)
    · exact Int.tmod_eq_emod_of_nonneg wl.1
    · rintro e w' ⟨n,rfl,rfl⟩
      exact ⟨by rw [Int.zero_mul,Int.zero_add],n,rfl⟩
theorem div64_word{hi lo y:Int}(wh:Word hi)(wl:Word lo)(wy:Word y)(h1:hi<y):Word ((hi*18446744073709551616+lo)/y)∧Word ((hi*18446744073709551616+lo) % y)∧(hi*18446744073709551616+lo) % y<y:=by
  have h0:=wh.1;have h2:=wl.1;have h3:=wl.2;have h4:=wy.2
  have m0:=Int.emod_nonneg (hi*18446744073709551616+lo) (show y≠0 by omega)
  have m1:=Int.emod_lt_of_pos (hi*18446744073709551616+lo) (show 0<y by omega)
  refine ⟨⟨Int.ediv_nonneg (by omega) (by omega),Int.ediv_lt_of_lt_mul (by omega) ?_⟩,⟨m0,by omega⟩,m1⟩
  have:=imR (show hi+1≤y by omega) (show (0:Int)≤18446744073709551616 by omega)
  omega
def RNatW(w:World)(xs:List Int)(x:Int)(e:Ending)(w':World):Prop:=∃ v,e = .returned (.tuple #[v,.int .u64 x])∧NatAt w.heap.size w' v xs∧Below w.heap.size w w'
theorem RowAt.draws{w:World}{G:Nat}{xs:List Int}(h:RowAt w G xs)(n:Nat):RowAt (w.drewN n) G xs:=h.below (below_draws (Below.refl _ _) n)
theorem short_step{xs ts:List Int}{k:Nat}{d r:Int}(_:0<d)(hk:k<xs.length)(h:val ts*d+r=val (xs.drop (k+1))) :
    val ((r*18446744073709551616+nth xs k)/d :: ts)*d+(r*18446744073709551616+nth xs k) % d=val (xs.drop k):=by
  rw [List.drop_eq_getElem_cons hk,val_cons,val_cons,←h,←nth_lt hk]
  have:=Int.mul_ediv_add_emod (r*18446744073709551616+nth xs k) d
  generalize (r*18446744073709551616+nth xs k)/d=Q at *
  generalize (r*18446744073709551616+nth xs k) % d=M at *
  grind
set_option maxHeartbeats 1600000 in
theorem lshort_calls{B:Nat}{w:World}{v:Value}{xs:List Int}{d:Int}(h:NatAt B w v xs)(wd:Word d)(hd:0<d) :
    Calls Tryz.prog 152 #[v,.int .u64 d] w (RNatW w (ws (val xs/d)) (val xs % d)):=by
  obtain ⟨A1,L1,c1,g1,o1,rfl,a1,k1,q1,l1,hg1,hc1,e1,wx⟩:=h.sub
  have WD:Hid (Word d):=wd
  have b1:L1≤17592186044415:=by have:=e1.out;omega
  have hmk:=make_run 22 Tryz.underlying22 L1 (by omega)
  clear h wd
  go_enter Tryz.func152,Tryz.ntmps152
  go_wp2
  go_loopw [7,8] (fun r i wr=>∃ (k:Nat) (ts:List Int) (rr:Int),k≤L1∧i = .int .i64 ((k:Int)-1)∧r = .int .u64 rr∧w.heap.size<wr.heap.size∧RowAt wr w.heap.size (List.replicate k 0 ++ ts)∧Below w.heap.size w wr∧Hid (ts.length+k=L1∧Words ts∧Word rr∧rr<d∧val ts*d+rr=val (xs.drop k))) (fun _ i _=>(intOf i+1).toNat)
  case atStart =>
    refine ⟨L1,[],0,Nat.le_refl _,rfl,rfl,by simp,?_,below_also _ _,by simp,Words.nil,⟨by omega,by omega⟩,hd,?_⟩
    · rw [List.append_nil];exact RowAt.made _ _
    · rw [List.drop_of_length_le (by rw [e1.out];omega)];simp [val]
  case round =>
    obtain ⟨k,ts,rr,hk,rfl,rfl,hG,hrow,hbel,hr⟩:=hrel
    obtain ⟨r1,r2,r3,r4,r5⟩:=hr.out
    by_cases h0:0<k
    · obtain ⟨j,rfl⟩:∃ j,k=j+1:=⟨k-1,by omega⟩
      obtain rfl:=a1 (by omega)
      have hg1':=hg1 (by omega)
      have hxj:wr.cell? ⟨g1,o1+j,none⟩=some (.int .u64 (nth xs j)):=((bcell hbel).1 _ _ hg1').trans (hc1 j (by omega))
      have e0:((j+1:Nat):Int)-1=(j:Int):=by omega
      rw [e0]
      clear e0
      have wxj:Hid (Word (nth xs j)):=wx.out.nth j
      have hlen:(List.replicate (j+1) (0:Int) ++ ts).length=L1:=by simp;omega
      have hcall:=fun W=>div64_calls r3 wxj.out WD.out r4 W
      obtain ⟨w1,w2,w3⟩:=div64_word r3 wxj.out WD.out r4
      have hst:=short_step hd (show j<xs.length by rw [e1.out];omega) r5
      generalize (rr*18446744073709551616+nth xs j)/d=Q at *
      generalize (rr*18446744073709551616+nth xs j) % d=M at *
      have hnew:RowAt (wr.setCell ⟨w.heap.size,j,none⟩ (.int .u64 Q)) w.heap.size (List.replicate j 0 ++ (Q :: ts)):=by
        have:=hrow.set j Q
        rw [List.replicate_succ',List.append_assoc,List.set_append_right _ _ (by simp),List.length_replicate,Nat.sub_self] at this
        exact this
      have hout:∀ n,(wr.drewN n).cell? ⟨w.heap.size,j,none⟩=some (.int .u64 (nth (List.replicate (j+1) 0 ++ ts) j)):=fun n=>(hrow.draws n).cell (by omega)
      have hfr:∀ n,(wr.drewN n).frozen? ⟨w.heap.size,j,none⟩=false:=fun n=>(hrow.draws n).frozen _
      have hnew':Hid (∀ n,RowAt ((wr.drewN n).setCell ⟨w.heap.size,j,none⟩ (.int .u64 Q)) w.heap.size (List.replicate j 0 ++ (Q :: ts))):=fun n=>by
        have:=(hrow.draws n).set j Q
        rw [List.replicate_succ',List.append_assoc,List.set_append_right _ _ (by simp),List.length_replicate,Nat.sub_self] at this
        exact this
      have hrel':Hid ((Q :: ts).length+j=L1∧Words (Q :: ts)∧Word M∧M<d∧val (Q :: ts)*d+M=val (xs.drop j)):=⟨by simp;omega,r2.cons w1,w2,w3,hst⟩
      have hbel2:Hid (∀ n,Below w.heap.size w ((wr.drewN n).setCell ⟨w.heap.size,j,none⟩ (.int .u64 Q))):=fun n=>(below_draws hbel n).setCell (Nat.le_refl _) _
      have HC:=Lib.hid hcall
      clear hr r1 r2 r3 r4 r5 w1 w2 w3 hst hrow hbel hnew hlen hcall
      go_wp2_with fail
      refine (HC.out _).mono ?_
      rintro e w' ⟨rfl,n,rfl⟩
      have hout':=hout n
      have hfr':=hfr n
      clear hout hfr
      go_wp2
      go_roundw
      case rel=>exact ⟨j,Q :: ts,M,by omega,rfl,rfl,by simpa using hG,hnew'.out n,hbel2.out n,hrel'⟩
      case measure=>simp [intOf]
    · obtain rfl:k=0:=by omega
      have hn1:Hid (NatAt w.heap.size wr (.slice (some ⟨w.heap.size,0,none⟩) L1 L1) ts):=by
        rw [List.replicate_zero,List.nil_append] at hrow
        exact hrow.nat (Nat.le_refl _) r2 _ (by omega) (by omega)
      have hval:Hid (val ts=val xs/d∧rr=val xs % d):=by
        rw [List.drop_zero] at r5
        have h0:=r3.1
        refine ⟨?_,?_⟩
        · rw [←r5,Int.add_comm,Int.add_mul_ediv_right _ _ (by omega),Int.ediv_eq_zero_of_lt h0 r4,Int.zero_add]
        · rw [←r5,Int.add_comm,Int.add_mul_emod_self_right,Int.emod_eq_of_lt h0 r4]
      have hbel2:Hid (Below w.heap.size w wr):=hbel
      clear hr r1 r2 r3 r4 r5 hrow hbel
      go_wp2_with fail
      refine (trim_calls hn1.out).mono ?_
      rintro e w' ⟨v',rfl,hn',rfl⟩
      go_wp2
      go_ret2
      refine ⟨v',by rw [←hval.out.2];rfl,?_,hbel2.out⟩
      rw [←hval.out.1];exact hn'
theorem gb_set{w W:World}{G:Nat}(h:w.grownBy W (some G))(j:Nat)(v:Value):w.grownBy (W.setCell ⟨G,j,none⟩ v) (some G) :=
  ⟨h.os,h.tape,h.output,by simpa using h.size,fun k hk hne=>(heap_setCell_other W ⟨G,j,none⟩ k v (fun e=>hne (by simp [e]))).trans (h.block k hk hne)⟩
theorem gb_draws{w W:World}{G:Nat}(h:w.grownBy W (some G))(n:Nat):w.grownBy (W.drewN n) (some G):=⟨h.os,h.tape,h.output,h.size,h.block⟩
theorem gb_cell{w W:World}{G:Nat}(h:w.grownBy W (some G)){g o:Nat}(hg:g<w.heap.size)(hne:g≠G):W.cell? ⟨g,o,none⟩=w.cell? ⟨g,o,none⟩ :=
  h.cell_far ⟨g,o,none⟩ hg (by simpa using hne)
theorem step_top{S D:List Int}{m:Nat}{q:Int}(hS:Words S)(hD:Words D)(lS:S.length=m+3)(lD:D.length=m+2)(hq0:0≤q)(hq:q*val D≤val S) :
    q*(nth D m+18446744073709551616*nth D (m+1))≤nth S m+18446744073709551616*(nth S (m+1)+18446744073709551616*nth S (m+2)):=by
  have a1:=val_take_all S (m+1+1+1) (by omega)
  have a2:=val_take_all D (m+1+1) (by omega)
  rw [val_take_more,val_take_more,val_take_more] at a1
  rw [val_take_more,val_take_more] at a2
  simp only [wpow_succ] at a1 a2
  have b1:=val_lt (hS.take m)
  rw [List.length_take,Nat.min_eq_left (by omega)] at b1
  have b2:=val_nonneg (hD.take m)
  rw [←a1,←a2] at hq
  have p:=wpow_pos m
  have c1:q*(wpow m*(nth D m+18446744073709551616*nth D (m+1)))≤q*(val (D.take m)+wpow m*nth D m+18446744073709551616*wpow m*nth D (m+1)):=by
    refine imL ?_ hq0
    have:wpow m*(nth D m+18446744073709551616*nth D (m+1))=wpow m*nth D m+18446744073709551616*wpow m*nth D (m+1):=by grind
    omega
  have c2:wpow m*(q*(nth D m+18446744073709551616*nth D (m+1)))<wpow m*(nth S m+18446744073709551616*(nth S (m+1)+18446744073709551616*nth S (m+2))+1):=by
    have e1:wpow m*(q*(nth D m+18446744073709551616*nth D (m+1)))=q*(wpow m*(nth D m+18446744073709551616*nth D (m+1))):=by grind
    have e2:wpow m*(nth S m+18446744073709551616*(nth S (m+1)+18446744073709551616*nth S (m+2))+1)=wpow m*nth S m+18446744073709551616*wpow m*nth S (m+1)+18446744073709551616*(18446744073709551616*wpow m)*nth S (m+2)+wpow m:=by grind
    rw [e1,e2];omega
  have:=Int.lt_of_mul_lt_mul_left c2 (by omega)
  omega
theorem step_guess{s2 s1 s0 d1 d0 q:Int}(w2:Word s2)(_:Word s1)(w0:Word s0)(_:Word d1)(v0:Word d0)(hlt:s2<d1)(hq0:0≤q)
    (h:q*(d0+18446744073709551616*d1)≤s0+18446744073709551616*(s1+18446744073709551616*s2)):q≤(s2*18446744073709551616+s1)/d1:=by
  have hd:0<d1:=by have:=w2.1;omega
  rw [Int.le_ediv_iff_mul_le hd]
  have e:q*(d0+18446744073709551616*d1)=q*d0+18446744073709551616*(q*d1):=by grind
  have:0≤q*d0:=Int.mul_nonneg hq0 v0.1
  have:=w0.2
  omega
theorem substep{g d cc rv lb:Int}(hg:Word g)(hd:Word d)(hc:Word cc)(hv:Word rv)(hb:0≤lb∧lb≤1) :
    ∃ h l l2 c2 r2 b2:Int,(∀ W,Calls Tryz.prog 161 #[.int .u64 g,.int .u64 d] W fun e w'=>e = .returned (.tuple #[.int .u64 h,.int .u64 l])∧W=w') ∧
      (∀ W,(callFunc 157 #[.int .u64 l,.int .u64 cc,.int .u64 0]).run Tryz.prog W = .ok (.value (.tuple #[.int .u64 l2,.int .u64 c2])) W) ∧
      (∀ W,(callFunc 160 #[.int .u64 rv,.int .u64 l2,.int .u64 lb]).run Tryz.prog W = .ok (.value (.tuple #[.int .u64 r2,.int .u64 b2])) W) ∧
      0≤h∧0≤c2∧h+c2≤18446744073709551615∧0≤b2∧b2≤1∧Hid (Word r2∧Word (h+c2)∧r2+g*d+cc+lb=rv+18446744073709551616*(h+c2)+18446744073709551616*b2):=by
  have e1:=lo_hi (g*d)
  have e2:=lo_hi (lo64 (g*d)+cc+0)
  have e3:=lo_hi (rv-lo64 (lo64 (g*d)+cc+0)-lb)
  have w1:=lo64_word (g*d)
  have w2:=lo64_word (lo64 (g*d)+cc+0)
  have w3:=lo64_word (rv-lo64 (lo64 (g*d)+cc+0)-lb)
  have b2:=hi64_bit w1 hc (c:=0) ⟨by omega,by omega⟩
  have b3:=hi64_borrow hv w2 hb
  refine ⟨_,_,_,_,_,_,fun W=>mul64_calls g d W hg hd,add64_run w1 hc ⟨by omega,by omega⟩,sub64_run hv w2 hb,?_⟩
  have p0:0≤g*d:=Int.mul_nonneg hg.1 hd.1
  have p1:g*d≤18446744073709551615*18446744073709551615:=by
    have:=hg.2;have:=hd.2
    exact Int.mul_le_mul (by omega) (by omega) hd.1 (by omega)
  have h0:0≤hi64 (g*d):=by unfold hi64;omega
  have hc2:=hc.2;have hc1:=hc.1;have hv1:=hv.1;have hv2:=hv.2
  generalize g*d=X at *
  generalize hi64 X=H at *
  generalize lo64 X=Lw at *
  generalize hi64 (Lw+cc+0)=C2 at *
  generalize lo64 (Lw+cc+0)=L2 at *
  generalize hi64 (rv-L2-lb)=C3 at *
  generalize lo64 (rv-L2-lb)=O2 at *
  have:=w1.1;have:=w1.2;have:=w2.1;have:=w2.2;have:=w3.1;have:=w3.2
  refine ⟨h0,b2.1,?_,b3.1,b3.2,w3,⟨?_,?_⟩,?_⟩<;>omega
theorem sub_next{Sk D:List Int}{k:Nat}{V g cc lb r2 cn bn:Int}(hk:k<Sk.length)(hv:val Sk=V-g*val (D.take k)+wpow k*(cc+lb))
    (he:r2+g*nth D k+cc+lb=nth Sk k+18446744073709551616*cn+18446744073709551616*bn) :
    val (Sk.set k r2)=V-g*val (D.take (k+1))+wpow (k+1)*(cn+bn):=by
  rw [val_set _ _ _ hk,val_take_more,wpow_succ,hv]
  have:wpow k*(r2+g*nth D k+cc+lb)=wpow k*(nth Sk k+18446744073709551616*cn+18446744073709551616*bn):=by rw [he]
  generalize wpow k=A at *
  generalize val (D.take k)=b at *
  generalize nth Sk k=c at *
  generalize nth D k=d at *
  clear he hv
  grind
theorem sub_last{Sk:List Int}{k:Nat}{V cc lb r2 bn:Int}(hk:k<Sk.length)(hv:val Sk=V+wpow k*(cc+lb))
    (he:r2=nth Sk k-cc-lb+18446744073709551616*bn):val (Sk.set k r2)=V+wpow (k+1)*bn:=by
  rw [val_set _ _ _ hk,wpow_succ,hv,he]
  generalize wpow k=A at *
  generalize nth Sk k=c at *
  clear he hv
  grind
theorem add_next{Sk D:List Int}{k:Nat}{V cc r2 cn:Int}(hk:k<Sk.length)(hv:val Sk+wpow k*cc=V+val (D.take k))
    (he:r2+18446744073709551616*cn=nth Sk k+nth D k+cc):val (Sk.set k r2)+wpow (k+1)*cn=V+val (D.take (k+1)):=by
  rw [val_set _ _ _ hk,val_take_more,wpow_succ]
  have:wpow k*(r2+18446744073709551616*cn)=wpow k*(nth Sk k+nth D k+cc):=by rw [he]
  generalize wpow k=A at *
  generalize val (D.take k)=b at *
  generalize nth Sk k=c at *
  generalize nth D k=d at *
  clear he
  grind
theorem add_last{Sk Sq D:List Int}{k:Nat}{V cc r2 c2 ga:Int}(hk:k<Sk.length)(hv:val Sk+wpow k*cc=val Sq+val D)
    (he:r2+18446744073709551616*c2=nth Sk k+0+cc) (h5:val Sq=V-ga*val D+wpow (k+1)*1) :
    val (Sk.set k r2)=V-(ga-1)*val D+wpow (k+1)*(1-c2):=by
  rw [val_set _ _ _ hk]
  rw [wpow_succ] at h5 ⊢
  have:wpow k*(r2+18446744073709551616*c2)=wpow k*(nth Sk k+0+cc):=by rw [he]
  generalize wpow k=A at *
  generalize nth Sk k=c at *
  generalize val D=d at *
  clear he
  grind
theorem row_set{w:World}{G j:Nat}{P S Z:List Int}(h:RowAt w G (P ++ (S ++ Z)))(hP:P.length=j){i:Nat}(hi:i<S.length)(x:Int) :
    RowAt (w.setCell ⟨G,j+i,none⟩ (.int .u64 x)) G (P ++ (S.set i x ++ Z)):=by
  have:=h.set (j+i) x
  rw [List.set_append_right _ _ (by omega),hP,Nat.add_sub_cancel_left,List.set_append_left _ _ hi] at this
  exact this
theorem row_cell{w:World}{G j:Nat}{P S Z:List Int}(h:RowAt w G (P ++ (S ++ Z)))(hP:P.length=j){i:Nat}(hi:i<S.length) :
    w.cell? ⟨G,j+i,none⟩=some (.int .u64 (nth S i)):=by
  have:=h.cell (j:=j+i) (by simp;omega)
  rw [nth_append_right (by omega),hP,Nat.add_sub_cancel_left,nth_append_left (by omega)] at this
  exact this
theorem dec1(g y l:Int):(g-1)*y+(l+y)=g*y+l:=by grind
theorem dist2(a b c d:Int):a*(b+c*d)=a*b+c*(a*d):=by grind
set_option maxRecDepth 100000 in
set_option maxHeartbeats 6400000 in
theorem step_walk(G j cp gd od cd m:Nat)(P S Z D:List Int)(q:Int)(w:World)(hP:P.length=j)(lS:S.length=m+3)(lD:D.length=m+2)(hS:Words S)(hD:Words D)
    (hrow:RowAt w G (P ++ (S ++ Z))) (hgd:gd<w.heap.size) (hne:gd≠G) (hcd:∀ i,i<m+2→w.cell? ⟨gd,od+i,none⟩=some (.int .u64 (nth D i)))
    (_:m+2≤cd) (hc2:m+3≤cp) (_:cd≤9223372036854775807) (hc4:cp≤9223372036854775807) (hc5:m+2≤17592186044415) (hq0:Hid (0≤q∧q<18446744073709551616∧q*val D≤val S∧val S<(q+1)*val D)) :
    Calls Tryz.prog 159 #[.slice (some ⟨G,j,none⟩) (m+3) cp,.slice (some ⟨gd,od,none⟩) (m+2) cd] w fun e w'=>e = .returned (.int .u64 q)∧w.grownBy w' (some G)∧∃ S',S'.length=m+3∧Words S'∧RowAt w' G (P ++ (S' ++ Z))∧val S'=val S-q*val D:=by
  have hcell:∀ i,i<m+3→w.cell? ⟨G,j+i,none⟩=some (.int .u64 (nth S i)):=fun i hi=>by
    have:=hrow.cell (j:=j+i) (by simp;omega)
    rw [nth_append_right (by omega),hP,Nat.add_sub_cancel_left,nth_append_left (by omega)] at this
    exact this
  have s2:=hcell (m+2) (by omega)
  have s1:=hcell (m+1) (by omega)
  have s0:=hcell m (by omega)
  have d1:=hcd (m+1) (by omega)
  have d0:=hcd m (by omega)
  have ws2:=hS.nth (m+2);have ws1:=hS.nth (m+1);have ws0:=hS.nth m;have wd1:=hD.nth (m+1);have wd0:=hD.nth m
  have htop:=step_top hS hD lS lD hq0.out.1 hq0.out.2.2.1
  have HP:=Lib.hid hP;have HlS:=Lib.hid lS;have HlD:=Lib.hid lD;have HS:=Lib.hid hS;have HD:=Lib.hid hD;have HR:=Lib.hid hrow;have HC:=Lib.hid hcell;have HCD:=Lib.hid hcd
  clear hP lS lD hS hD hrow hcell hcd
  have W2:=Lib.hid ws2;have W1:=Lib.hid ws1;have W0:=Lib.hid ws0;have V1:=Lib.hid wd1;have V0:=Lib.hid wd0;have HT:=Lib.hid htop
  clear htop
  go_enter Tryz.func159,Tryz.ntmps159
  go_wp2_with fail
  go_quiet (fail)
  go_upto_if 31 with fail
  go_cut [6,7,8,9] (fun g a b c wx=>(∃ gg,g = .int .u64 gg∧Hid (Word gg∧q≤gg))∧(∃ n,wx=w.drewN n))
  case first =>
    generalize hw1:w.drewN _=w1
    have f2:w1.cell? ⟨G,j+(m+2),none⟩=some (.int .u64 (nth S (m+2))):=by rw [←hw1];exact s2
    have f1:w1.cell? ⟨G,j+(m+1),none⟩=some (.int .u64 (nth S (m+1))):=by rw [←hw1];exact s1
    have f0:w1.cell? ⟨G,j+m,none⟩=some (.int .u64 (nth S m)):=by rw [←hw1];exact s0
    have e1:w1.cell? ⟨gd,od+(m+1),none⟩=some (.int .u64 (nth D (m+1))):=by rw [←hw1];exact d1
    have e0:w1.cell? ⟨gd,od+m,none⟩=some (.int .u64 (nth D m)):=by rw [←hw1];exact d0
    have HW1:Hid (∃ n,w1=w.drewN n):=⟨_,hw1.symm⟩
    clear hw1 s2 s1 s0 d1 d0
    generalize nth S (m+2)=x2 at *
    generalize nth S (m+1)=x1 at *
    generalize nth S m=x0 at *
    generalize nth D (m+1)=y1 at *
    generalize nth D m=y0 at *
    by_cases hlt:x2<y1
    · have hg:=step_guess W2.out W1.out W0.out V1.out V0.out hlt hq0.out.1 HT.out
      obtain ⟨gw,lw,lb⟩:=div64_word W2.out W1.out V1.out hlt
      have hdiv:=fun W=>div64_calls W2.out W1.out V1.out hlt W
      have hge:Hid ((x2*18446744073709551616+x1)/y1*y1+(x2*18446744073709551616+x1) % y1=x2*18446744073709551616+x1):=by
        show _=_
        rw [Int.mul_comm];exact Int.mul_ediv_add_emod _ _
      generalize (x2*18446744073709551616+x1)/y1=g0 at *
      generalize (x2*18446744073709551616+x1) % y1=l0 at *
      have GW:=Lib.hid gw;have LW:=Lib.hid lw;have HDV:=Lib.hid hdiv;have HG:=Lib.hid hg
      clear gw lw lb hdiv hg ws2 ws1 ws0 wd1 wd0
      have hd:decide (x2<y1)=true:=by simpa using hlt
      go_wp2_with fail
      go_quiet ((go_at_call 163;exact Calls.quiet_of (HDV.out _)))
      go_wp2_with fail
      simp only [hd]
      go_loop [6,7] (fun g l=>∃ gg ll:Int,g = .int .u64 gg∧l = .int .u64 ll∧0≤gg∧0≤ll∧Hid (Word gg∧Word ll∧q≤gg∧gg*y1+ll=x2*18446744073709551616+x1)) (fun g _=>(intOf g).toNat)
      case atStart=>exact ⟨g0,l0,rfl,rfl,GW.out.1,LW.out.1,GW.out,LW.out,HG.out,hge.out⟩
      case round =>
        obtain ⟨gg,ll,rfl,rfl,hg0,hl0,hr⟩:=hrel
        obtain ⟨r1,r2,r3,r4⟩:=hr.out
        have hmul:=fun W=>mul64_calls gg y0 W r1 V0.out
        have elh:=lo_hi (gg*y0)
        have wlo:=lo64_word (gg*y0)
        have hhi0:0≤hi64 (gg*y0):=by
          have:=Int.mul_nonneg r1.1 V0.out.1;unfold hi64;omega
        have hbig:gg*(y0+18446744073709551616*y1)=gg*y0+18446744073709551616*(gg*y1):=dist2 _ _ _ _
        have hqt:=HT.out
        generalize hi64 (gg*y0)=h at *
        generalize lo64 (gg*y0)=mm at *
        by_cases hstop:h<ll∨(h=ll∧mm≤x0)
        · have HM:=Lib.hid hmul
          have HGG:Hid (Word gg∧q≤gg):=⟨r1,r3⟩
          clear hmul elh wlo hbig hqt r1 r2 r3 r4 hr
          rcases hstop with hs | ⟨rfl,hs⟩
          · have hd1:decide (h<ll)=true:=by simpa using hs
            go_wp2_with fail
            refine (HM.out _).mono ?_
            rintro e w' ⟨rfl,rfl⟩
            go_wp2
            go_meet
            exact ⟨⟨_,rfl,HGG⟩,by obtain ⟨n,hn⟩:=HW1.out;rw [hn];exact ⟨_,World.drewN_drewN ..⟩⟩
          · go_wp2_with fail
            refine (HM.out _).mono ?_
            rintro e w' ⟨rfl,rfl⟩
            go_wp2
            go_meet
            exact ⟨⟨_,rfl,HGG⟩,by obtain ⟨n,hn⟩:=HW1.out;rw [hn];exact ⟨_,World.drewN_drewN ..⟩⟩
        · have hgt:x0+18446744073709551616*ll<gg*y0:=by
            have:=W0.out.2;have:=wlo.1;have:=W0.out.1
            by_cases h1:ll<h
            · omega
            · have:h=ll:=by omega
              omega
          have hdn:Hid (Word (gg-1)∧q≤gg-1):=by
            have hlt:q<gg:=by
              by_cases hq:q<gg
              · exact hq
              · exfalso
                have c:=imR (show gg≤q by omega) (show 0≤y0+18446744073709551616*y1 by have:=V0.out.1;have:=V1.out.1;omega)
                rw [hbig] at c
                omega
            have:=r1.1;have:=r1.2;have:=hq0.out.1
            exact ⟨⟨by omega,by omega⟩,by omega⟩
          have hg1:1≤gg:=by have:=hdn.out.1.1;omega
          have hsub:IntKind.u64.wrap (gg-1)=gg-1:=wrap_small (by omega) (by have:=r1.2;omega)
          have HM:=Lib.hid hmul
          have hy1:0≤y1:=V1.out.1
          by_cases hov:18446744073709551616≤ll+y1
          · have hwr:IntKind.u64.wrap (ll+y1)=ll+y1-18446744073709551616:=by
              rw [IntKind.wrap_u64];have:=r2.2;have:=V1.out.2;omega
            have hlow:ll+y1-18446744073709551616<y1:=by have:=r2.2;omega
            have hlow0:0≤ll+y1-18446744073709551616:=by omega
            generalize ll+y1-18446744073709551616=l2 at *
            have hd2:decide (l2<y1)=true:=by simpa using hlow
            clear hmul elh wlo hbig hqt r1 r2 r3 r4 hr hgt hov
            by_cases hs1:h<ll
            · exact absurd (Or.inl hs1) hstop
            · by_cases hs2:h=ll
              · subst hs2
                have hs3:¬ mm≤x0:=fun hh=>hstop (.inr ⟨rfl,hh⟩)
                clear hstop
                go_wp2_with fail
                refine (HM.out _).mono ?_
                rintro e w' ⟨rfl,rfl⟩
                go_wp2
                go_meet
                exact ⟨⟨_,rfl,hdn⟩,by obtain ⟨n,hn⟩:=HW1.out;rw [hn];exact ⟨_,World.drewN_drewN ..⟩⟩
              · clear hstop
                go_wp2_with fail
                refine (HM.out _).mono ?_
                rintro e w' ⟨rfl,rfl⟩
                go_wp2
                go_meet
                exact ⟨⟨_,rfl,hdn⟩,by obtain ⟨n,hn⟩:=HW1.out;rw [hn];exact ⟨_,World.drewN_drewN ..⟩⟩
          · have hwr:IntKind.u64.wrap (ll+y1)=ll+y1:=wrap_small (by omega) (by omega)
            have hlow:¬ (ll+y1<y1):=by omega
            have hrel':Hid (Word (gg-1)∧Word (ll+y1)∧q≤gg-1∧(gg-1)*y1+(ll+y1)=x2*18446744073709551616+x1):=⟨hdn.out.1,⟨by omega,by omega⟩,hdn.out.2,by rw [←r4];exact dec1 _ _ _⟩
            have hl2:0≤ll+y1:=by omega
            have hd2:decide (ll+y1<y1)=false:=by simp;omega
            clear hmul elh wlo hbig hqt r1 r2 r3 r4 hr hgt hov
            by_cases hs1:h<ll
            · exact absurd (Or.inl hs1) hstop
            · by_cases hs2:h=ll
              · subst hs2
                have hs3:¬ mm≤x0:=fun hh=>hstop (.inr ⟨rfl,hh⟩)
                clear hstop
                go_wp2_with fail
                refine (HM.out _).mono ?_
                rintro e w' ⟨rfl,rfl⟩
                go_wp2
                go_round
                case rel=>(refine ⟨trivial,?_⟩;(repeat apply Exists.intro);exact ⟨⟨gg-1,_,rfl,rfl,by omega,hl2,hrel'⟩,rfl⟩)
                case measure=>simp [intOf];omega
              · clear hstop
                go_wp2_with fail
                refine (HM.out _).mono ?_
                rintro e w' ⟨rfl,rfl⟩
                go_wp2
                go_round
                case rel=>(refine ⟨trivial,?_⟩;(repeat apply Exists.intro);exact ⟨⟨gg-1,_,rfl,rfl,by omega,hl2,hrel'⟩,rfl⟩)
                case measure=>simp [intOf];omega
    · have hd:decide (x2<y1)=false:=by simpa using hlt
      have HGG:Hid (Word (18446744073709551615:Int)∧q≤18446744073709551615):=⟨⟨by omega,by omega⟩,by have:=hq0.out.2.1;omega⟩
      go_wp2
      go_meet
      exact ⟨⟨_,rfl,HGG⟩,HW1.out⟩
  case rest =>
    obtain ⟨⟨gg,rfl,hgg⟩,n,rfl⟩:=hcut
    have hrow1:RowAt (w.drewN n) G (P ++ (S ++ Z)):=HR.out.draws n
    have hgb1:w.grownBy (w.drewN n) (some G):=gb_draws (World.grownBy.refl w _) n
    generalize w.drewN n=w1 at *
    clear s2 s1 s0 d1 d0 HC
    have hgg0:0≤gg:=hgg.out.1.1
    go_wp2
    go_loopw [10,11,95] (fun l c i wr=>∃ (k:Nat) (Sk:List Int) (cc lb:Int),k≤m+2∧i = .int .i64 k∧l = .int .u64 lb∧c = .int .u64 cc∧0≤lb∧lb≤1∧0≤cc∧RowAt wr G (P ++ (Sk ++ Z))∧w.grownBy wr (some G)∧Hid (Word cc∧Sk.length=m+3∧Words Sk∧val Sk=val S-gg*val (D.take k)+wpow k*(cc+lb)∧∀ i,k≤i→nth Sk i=nth S i)) (fun _ _ i _=>m+2-(intOf i).toNat)
    case atStart =>
      exact ⟨0,S,0,0,by omega,rfl,rfl,rfl,by omega,by omega,by omega,hrow1,hgb1,⟨by omega,by omega⟩,HlS.out,HS.out,by simp [val],fun _ _=>rfl⟩
    case round =>
      obtain ⟨k,Sk,cc,lb,hk,rfl,rfl,rfl,hl0,hl1,hcc0,hrow,hgb,hr⟩:=hrel
      obtain ⟨r1,r2,r3,r4,r5⟩:=hr.out
      by_cases hlt:k<m+2
      · have hdk:wr.cell? ⟨gd,od+k,none⟩=some (.int .u64 (nth D k)):=(gb_cell hgb hgd hne).trans (HCD.out k hlt)
        have hsk:=row_cell hrow HP.out (i:=k) (by omega)
        have hfr:wr.frozen? ⟨G,j+k,none⟩=false:=hrow.frozen _
        obtain ⟨h,l,l2,c2,x2,b2,hmul,hadd,hsub,p1,p2,p3,p4,p5,hfin⟩:=substep hgg.out.1 (HD.out.nth k) r1 (r3.nth k) ⟨hl0,hl1⟩
        have hnew:Hid (RowAt (wr.setCell ⟨G,j+k,none⟩ (.int .u64 x2)) G (P ++ (Sk.set k x2 ++ Z))):=row_set hrow HP.out (by omega) x2
        have hgb2:Hid (w.grownBy (wr.setCell ⟨G,j+k,none⟩ (.int .u64 x2)) (some G)):=gb_set hgb _ _
        have hrel':Hid (Word (h+c2)∧(Sk.set k x2).length=m+3∧Words (Sk.set k x2)∧val (Sk.set k x2)=val S-gg*val (D.take (k+1))+wpow (k+1)*((h+c2)+b2)∧∀ i,k+1≤i→nth (Sk.set k x2) i=nth S i) :=
          ⟨hfin.out.2.1,by simp [r2],r3.set _ hfin.out.1,sub_next (by omega) r4 hfin.out.2.2,fun i hi=>by rw [nth_set_ne _ (by omega),r5 i (by omega)]⟩
        have HM:=Lib.hid hmul
        have hhc:0≤h+c2:=by omega
        clear hmul hfin hr r1 r2 r3 r4 r5 hrow hgb
        go_wp2_with fail
        refine (HM.out _).mono ?_
        rintro e w' ⟨rfl,rfl⟩
        go_wp2
        go_roundw
        case rel=>exact ⟨k+1,_,_,_,by omega,by go_num,rfl,rfl,p4,p5,hhc,hnew.out,hgb2.out,hrel'⟩
        case measure=>simp [intOf];omega
      · obtain rfl:m+2=k:=by omega
        have hsk:=row_cell hrow HP.out (i:=m+2) (by omega)
        have hfr:wr.frozen? ⟨G,j+(m+2),none⟩=false:=hrow.frozen _
        have hsub:=sub64_run (r3.nth (m+2)) r1 ⟨hl0,hl1⟩
        have hbb:=hi64_borrow (r3.nth (m+2)) r1 ⟨hl0,hl1⟩
        have hlh:lo64 (nth Sk (m+2)-cc-lb)=nth Sk (m+2)-cc-lb+18446744073709551616 * -hi64 (nth Sk (m+2)-cc-lb):=by
          have:=lo_hi (nth Sk (m+2)-cc-lb);omega
        have wlo:=lo64_word (nth Sk (m+2)-cc-lb)
        generalize lo64 (nth Sk (m+2)-cc-lb)=x2 at *
        generalize -hi64 (nth Sk (m+2)-cc-lb)=b2 at *
        obtain ⟨hb0,hb1⟩:=hbb
        have hnew:Hid (RowAt (wr.setCell ⟨G,j+(m+2),none⟩ (.int .u64 x2)) G (P ++ (Sk.set (m+2) x2 ++ Z))):=row_set hrow HP.out (by omega) x2
        have hgb2:Hid (w.grownBy (wr.setCell ⟨G,j+(m+2),none⟩ (.int .u64 x2)) (some G)):=gb_set hgb _ _
        have hrel':Hid (Word gg∧q≤gg∧(Sk.set (m+2) x2).length=m+3∧Words (Sk.set (m+2) x2)∧val (Sk.set (m+2) x2)=val S-gg*val D+wpow (m+3)*b2):=by
          refine ⟨hgg.out.1,hgg.out.2,by simp [r2],r3.set _ wlo,?_⟩
          rw [val_take_all _ _ (by rw [HlD.out];omega)] at r4
          exact sub_last (k:=m+2) (by omega) r4 hlh
        clear hlh wlo hr r1 r2 r3 r4 r5 hrow hgb
        go_wp2
        go_loopw [6,10] (fun g l wr=>∃ (ga lb:Int) (Sk:List Int),g = .int .u64 ga∧l = .int .u64 lb∧0≤lb∧lb≤1∧0≤ga∧RowAt wr G (P ++ (Sk ++ Z))∧w.grownBy wr (some G)∧Hid (Word ga∧q≤ga∧Sk.length=m+3∧Words Sk∧val Sk=val S-ga*val D+wpow (m+3)*lb)) (fun g _ _=>(intOf g).toNat)
        case atStart=>exact ⟨gg,b2,_,rfl,rfl,hb0,hb1,hgg0,hnew.out,hgb2.out,hrel'⟩
        case round =>
          obtain ⟨ga,lb,Sq,rfl,rfl,hlb0,hlb1,hga0,hrow,hgb,hr⟩:=hrel
          obtain ⟨wo,rfl⟩:∃ wo:World,wo=wr:=⟨_,rfl⟩
          obtain ⟨r1,r2,r3,r4,r5⟩:=hr.out
          have hvd:0≤val D:=val_nonneg HD.out
          have hvs:0≤val S:=val_nonneg HS.out
          by_cases hz:lb=0
          · subst hz
            have hq:Hid (ga=q):=by
              show _=_
              have v0:=val_nonneg r4
              have h1:=hq0.out.2.2.2
              by_cases h:q+1≤ga
              · have:=imR h hvd
                omega
              · omega
            have hS':Hid (Sq.length=m+3∧Words Sq∧RowAt wo G (P ++ (Sq ++ Z))∧val Sq=val S-q*val D):=⟨r3,r4,hrow,by rw [←hq.out];omega⟩
            have hgb3:Hid (w.grownBy wo (some G)):=hgb
            clear hr r1 r2 r3 r4 r5 hrow hgb hnew hgb2 hrel'
            go_wp2
            go_ret
            exact ⟨by rw [←hq.out];rfl,hgb3.out,Sq,hS'.out⟩
          · obtain rfl:lb=1:=by omega
            have hqg:q≤ga-1:=by
              have v1:=val_lt r4
              rw [r3] at v1
              have h1:=hq0.out.2.2.1
              by_cases h:ga≤q
              · have:=imR h hvd
                omega
              · omega
            have hga1:1≤ga:=by have:=hq0.out.1;omega
            have hsubg:IntKind.u64.wrap (ga-1)=ga-1:=wrap_small (by omega) (by have:=r1.2;omega)
            clear hnew hgb2 hrel' hz
            go_wp2
            go_loopw [17,148] (fun c i wr=>∃ (k:Nat) (Sk:List Int) (cc:Int),k≤m+2∧i = .int .i64 k∧c = .int .u64 cc∧0≤cc∧cc≤1∧RowAt wr G (P ++ (Sk ++ Z))∧w.grownBy wr (some G)∧Hid (Sk.length=m+3∧Words Sk∧val Sk+wpow k*cc=val Sq+val (D.take k)∧∀ i,k≤i→nth Sk i=nth Sq i)) (fun _ i _=>m+2-(intOf i).toNat)
            case atStart=>exact ⟨0,Sq,0,by omega,rfl,rfl,by omega,by omega,hrow,hgb,r3,r4,by simp [val],fun _ _=>rfl⟩
            case round =>
              obtain ⟨k,Sk,cc,hk,rfl,rfl,hc0,hc1',hrow',hgb',hr'⟩:=hrel
              obtain ⟨t1,t2,t3,t4⟩:=hr'.out
              by_cases hlt:k<m+2
              · have hdk:wr.cell? ⟨gd,od+k,none⟩=some (.int .u64 (nth D k)):=(gb_cell hgb' hgd hne).trans (HCD.out k hlt)
                have hsk:=row_cell hrow' HP.out (i:=k) (by omega)
                have hfr:wr.frozen? ⟨G,j+k,none⟩=false:=hrow'.frozen _
                have hadd:=add64_run (t2.nth k) (HD.out.nth k) ⟨hc0,hc1'⟩
                have hbb:=hi64_bit (t2.nth k) (HD.out.nth k) ⟨hc0,hc1'⟩
                have hlh:=lo_hi (nth Sk k+nth D k+cc)
                have wlo:=lo64_word (nth Sk k+nth D k+cc)
                generalize lo64 (nth Sk k+nth D k+cc)=x2 at *
                generalize hi64 (nth Sk k+nth D k+cc)=c2 at *
                obtain ⟨hb0',hb1'⟩:=hbb
                have hnew:Hid (RowAt (wr.setCell ⟨G,j+k,none⟩ (.int .u64 x2)) G (P ++ (Sk.set k x2 ++ Z))):=row_set hrow' HP.out (by omega) x2
                have hgb2:Hid (w.grownBy (wr.setCell ⟨G,j+k,none⟩ (.int .u64 x2)) (some G)):=gb_set hgb' _ _
                have hrel':Hid ((Sk.set k x2).length=m+3∧Words (Sk.set k x2)∧val (Sk.set k x2)+wpow (k+1)*c2=val Sq+val (D.take (k+1))∧∀ i,k+1≤i→nth (Sk.set k x2) i=nth Sq i) :=
                  ⟨by simp [t1],t2.set _ wlo,add_next (by omega) t3 hlh,fun i hi=>by rw [nth_set_ne _ (by omega),t4 i (by omega)]⟩
                clear hlh wlo hr r1 r2 r3 r4 r5 hrow hgb hr' t1 t2 t3 t4 hrow' hgb'
                go_wp2
                go_roundw
                case rel=>exact ⟨k+1,_,_,by omega,by go_num,rfl,hb0',hb1',hnew.out,hgb2.out,hrel'⟩
                case measure=>simp [intOf];omega
              · obtain rfl:m+2=k:=by omega
                have hsk:=row_cell hrow' HP.out (i:=m+2) (by omega)
                have hfr:wr.frozen? ⟨G,j+(m+2),none⟩=false:=hrow'.frozen _
                have wz:Word (0:Int):=⟨by omega,by omega⟩
                have hadd:=add64_run (t2.nth (m+2)) wz ⟨hc0,hc1'⟩
                have hbb:=hi64_bit (t2.nth (m+2)) wz ⟨hc0,hc1'⟩
                have hlh:=lo_hi (nth Sk (m+2)+0+cc)
                have wlo:=lo64_word (nth Sk (m+2)+0+cc)
                generalize lo64 (nth Sk (m+2)+0+cc)=x2 at *
                generalize hi64 (nth Sk (m+2)+0+cc)=c2 at *
                obtain ⟨hb0',hb1'⟩:=hbb
                have hnew:Hid (RowAt (wr.setCell ⟨G,j+(m+2),none⟩ (.int .u64 x2)) G (P ++ (Sk.set (m+2) x2 ++ Z))):=row_set hrow' HP.out (by omega) x2
                have hgb2:Hid (w.grownBy (wr.setCell ⟨G,j+(m+2),none⟩ (.int .u64 x2)) (some G)):=gb_set hgb' _ _
                have hrel':Hid (Word (ga-1)∧q≤ga-1∧(Sk.set (m+2) x2).length=m+3∧Words (Sk.set (m+2) x2)∧val (Sk.set (m+2) x2)=val S-(ga-1)*val D+wpow (m+3)*(1-c2)):=by
                  refine ⟨⟨by omega,by have:=r1.2;omega⟩,hqg,by simp [t1],t2.set _ wlo,?_⟩
                  rw [val_take_all _ _ (by rw [HlD.out];omega)] at t3
                  exact add_last (k:=m+2) (by omega) t3 hlh r5
                clear hlh wlo hr r1 r2 r3 r4 r5 hrow hgb hr' t1 t2 t3 t4 hrow' hgb'
                go_wp2
                go_roundw
                case rel=>exact ⟨_,_,_,rfl,rfl,by omega,by omega,by omega,hnew.out,hgb2.out,hrel'⟩
                case measure=>simp [intOf];omega
theorem step_calls(G j cp gd od cd m:Nat)(P S Z D:List Int)(w:World)(hP:P.length=j)(lS:S.length=m+3)(lD:D.length=m+2)(hS:Words S)(hD:Words D)
    (hrow:RowAt w G (P ++ (S ++ Z))) (hgd:gd<w.heap.size) (hne:gd≠G) (hcd:∀ i,i<m+2→w.cell? ⟨gd,od+i,none⟩=some (.int .u64 (nth D i)))
    (hc1:m+2≤cd) (hc2:m+3≤cp) (hc3:cd≤9223372036854775807) (hc4:cp≤9223372036854775807) (hc5:m+2≤17592186044415) (hlt:val S<18446744073709551616*val D) :
    Calls Tryz.prog 159 #[.slice (some ⟨G,j,none⟩) (m+3) cp,.slice (some ⟨gd,od,none⟩) (m+2) cd] w fun e w'=>e = .returned (.int .u64 (val S/val D))∧w.grownBy w' (some G)∧∃ S',S'.length=m+3∧Words S'∧RowAt w' G (P ++ (S' ++ Z))∧val S'=val S % val D:=by
  have v0:=val_nonneg hS
  have v1:=val_nonneg hD
  have hpos:0<val D:=by omega
  have e:=Int.mul_ediv_add_emod (val S) (val D)
  have m1:=Int.emod_lt_of_pos (val S) hpos
  have m0:=Int.emod_nonneg (val S) (show val D≠0 by omega)
  refine (step_walk G j cp gd od cd m P S Z D (val S/val D) w hP lS lD hS hD hrow hgd hne hcd hc1 hc2 hc3 hc4 hc5 ⟨Int.ediv_nonneg v0 v1,Int.ediv_lt_of_lt_mul hpos hlt,?_,?_⟩).mono ?_
  · rw [Int.mul_comm];omega
  · rw [Int.add_mul,Int.one_mul,Int.mul_comm];omega
  · rintro e' w' ⟨rfl,hg,S',h1,h2,h3,h4⟩
    refine ⟨rfl,hg,S',h1,h2,h3,?_⟩
    rw [Int.mul_comm] at h4;omega
theorem divstep_pos{a b:Int}(h:a<b)(ha:0≤a):a/b=0∧a % b=a:=⟨Int.ediv_eq_zero_of_lt ha h,Int.emod_eq_of_lt ha h⟩
def RNat2(w:World)(xs ys:List Int)(e:Ending)(w':World):Prop:=∃ v v',e = .returned (.tuple #[v,v'])∧NatAt w.heap.size w' v xs∧NatAt w.heap.size w' v' ys∧Below w.heap.size w w'
theorem nat_of_own{w:World}{B n:Nat}{v:Value}{xs:List Int}(hl:xs.length≤17592186044415)(hw:Words xs)(h:w.ownsRow B 48 1 v n (xs.map (Value.int .u64))):NatAt B w v xs:=by
  have hn:xs.length=n:=by have:=h.1;simpa using this
  rcases h.2 with ⟨rfl,rfl⟩|⟨g,cap,cur,rfl,hb,hh,h1,h2,h3,h4⟩
  · obtain rfl:xs = []:=List.eq_nil_of_length_eq_zero hn
    exact NatAt.nil _ _
  · subst hn
    refine ⟨_,cap,rfl,h1,⟨by simpa [maxLen] using h2,hl⟩,hw,by simp,fun _=>⟨g,0,rfl,hb,(Array.getElem?_eq_some_iff.1 hh).1,fun j hj=>?_⟩⟩
    rw [Nat.zero_add,cell_of_row w g j _ _ _ hh]
    have:(cur.toList.take (xs.length*1))[j]?=some (.int .u64 (nth xs j)):=by rw [h4];simp [nth_get? hj]
    rw [List.getElem?_take,if_pos (by omega)] at this
    simpa using this
theorem wpList_append_copy{P0:Program}(hP0:P0=Tryz.prog)(B0:Nat){w0 w:World}{ops:Array Oper}{rest:List Oper}{o:Oper}{a:Act}{Q:Exit→Act→World→Prop}(hgd:o.guard=none)(s x:Operand)(t:TypeId)
    (ho:o.op = .call { callee:=.builtin .append,args:=#[s,x],argTypes:=#[t,t] }) (ht:P0.underlying t=some (.slice 48))
    {B:Nat} {v0 v:Value} {xs:List Int} (hs:a.eval s=v0) (hx:a.eval x=v) (hown:w.ownsRow B0 48 1 v0 0 []) (hn:NatAt B w v xs) (hb:Below B0 w0 w) (hB0:B0≤w.heap.size)
    (h:∀ v' w',NatAt B0 w' v' xs→Below B0 w0 w'→w.grownBy w' v0.ownBlock→wpList P0 ops Q rest (a.put o.dst v') w'):wpList P0 ops Q (o :: rest) a w:=by
  subst hP0
  obtain ⟨i0,hi,h0,h1,h2⟩:=info_parts info_u64
  have hrow:∀ k,v0.ownBlock=some k→B0≤k:=fun k hk=>(hown.lt k hk).1
  have key:∀ (ad:Addr) (c:Nat),v = .slice (some ad) xs.length c→(∀ j u,(xs.map (Value.int .u64))[j]?=some u→w.cell? (ad.add j)=some u)→wpList Tryz.prog ops Q (o :: rest) a w:=by
    intro ad c hv hc
    refine wpList_append_own w hgd s x t ho B0 _ i0 (.int .u64 0) 1 8 ht hi h0 h1 h2 rfl (by decide) v0 0 [] hs hown ad xs.length c (xs.map (Value.int .u64)) (by rw [hx,hv]) (by simp) hc (ints_oneCell .u64 xs) ?_ ?_ hB0 ?_
    · have:=hn.len;simp only [maxLen];omega
    · have:=hn.len;omega
    · intro v' w' hown' hg _
      rw [Nat.zero_add,List.nil_append] at hown'
      exact h v' w' (nat_of_own hn.len hn.words hown') (hb.grown hg hB0 hrow) hg
  by_cases hx0:xs = []
  · rcases hn.open0' hx0 with rfl | ⟨ad,c,rfl⟩
    · refine wpList_append_own_none hgd s x t ho B0 _ i0 1 ht hi v0 0 [] hs hown hx ?_
      refine h v0 w ?_ hb (World.grownBy.refl _ _)
      have:xs.map (Value.int .u64) = []:=by rw [hx0];rfl
      exact nat_of_own (n:=0) hn.len hn.words (by rw [this];exact hown)
    · exact key ad c (by rw [hx0];rfl) (fun j u hj=>by rw [hx0] at hj;simp at hj)
  · obtain ⟨A,L,c,g,o',rfl,ha,_,_,_,hg,hc,e,_⟩:=hn.sub
    have hp:0<xs.length:=List.length_pos_iff.2 hx0
    have e':xs.length=L:=e.out
    obtain rfl:=ha (by omega)
    refine key ⟨g,o',none⟩ c (by rw [e']) (fun j u hj=>?_)
    have hjl:j<xs.length:=by
      by_cases hjl:j<xs.length
      · exact hjl
      · rw [List.getElem?_eq_none (by simp;omega)] at hj;cases hj
    rw [List.getElem?_map,nth_get? hjl] at hj
    simp only [Option.map_some,Option.some.injEq] at hj
    subst hj
    have:(⟨g,o',none⟩:Addr).add j=⟨g,o' + j,none⟩:=by unfold Addr.add;split<;>simp_all
    rw [this];exact hc j (by omega)
theorem wpList_copy_row{w:World}{ops:Array Oper}{rest:List Oper}{o:Oper}{a:Act}{Q:Exit→Act→World→Prop}(hgd:o.guard=none)(d s:Operand)(t:TypeId)
    (ho:o.op = .call { callee:=.builtin .copy,args:=#[d,s],argTypes:=#[t,t] }) (ht:Tryz.prog.underlying t=some (.slice 48))
    {B G n:Nat} {v:Value} {xs ys:List Int} (hd:a.eval d = .slice (some ⟨G,0,none⟩) n n) (hs:a.eval s=v) (hrow:RowAt w G xs) (hl:xs.length=n) (hn:NatAt B w v ys) (hle:ys.length≤n)
    (h:∀ w',RowAt w' G (ys ++ xs.drop ys.length)→Below G w w'→wpList Tryz.prog ops Q rest (a.put o.dst (goInt ys.length)) w'):wpList Tryz.prog ops Q (o :: rest) a w:=by
  obtain ⟨A,L,c,g,o',rfl,ha,_,_,_,hg,hc,e,_⟩:=hn.sub
  have e':ys.length=L:=e.out
  have hcur:w.heap[G]?=some (.cells (xs.map (Value.int .u64)).toArray 48 (0,0)):=hrow
  refine wpList_copy_splice hgd d s t t ho _ ht (by rw [show (Tryz.prog.info? 48).map (·.size)=some 1 from by kernel_rfl]) (some ⟨G,0,none⟩) A n n L c hd hs G 0 (xs.map (Value.int .u64)) _ hcur (ys.map (Value.int .u64)) (by rw [List.length_map,e'];exact (Nat.min_eq_left (by omega)).symm) ?_ (by simp;omega) (ints_oneCell .u64 ys) G w (Below.refl _ _) (Nat.le_refl _) ?_
  · intro hp
    have hp':0<L:=by rw [←e'];simpa using hp
    refine ⟨rfl,_,ha hp',fun j u hj=>?_⟩
    have hjl:j<ys.length:=by
      by_cases hjl:j<ys.length
      · exact hjl
      · rw [List.getElem?_eq_none (by simp;omega)] at hj;cases hj
    rw [List.getElem?_map,nth_get? hjl] at hj
    simp only [Option.map_some,Option.some.injEq] at hj
    subst hj
    have:(⟨g,o',none⟩:Addr).add j=⟨g,o' + j,none⟩:=by unfold Addr.add;split<;>simp_all
    rw [this];exact hc j (by omega)
  · intro w' hw' hb
    have:=h w' (by
      show w'.heap[G]?=_
      rw [hw'.out]
      simp [splice,cellsOf]) hb
    simpa using this
structure DivAt (A D R ts:List Int) (k M:Nat):Prop where
  lR:R.length=A.length
  wR:Words R
  front:R.take k=A.take k
  lt:ts.length+k=M
  wt:Words ts
  small:val (R.drop k)<val D
  eq:val ts*val D+val (R.drop k)=val (A.drop k)
theorem divAt_step{A D R ts:List Int}{j m M:Nat}(h:DivAt A D R ts (j+1) M)(lD:D.length=m+2)(hD:Words D)(_:Words A)(hl:j+(m+3)≤A.length) :
    ∃ P S Z,R=P ++ (S ++ Z)∧P.length=j∧S.length=m+3∧Words S∧val S<18446744073709551616*val D∧(0<val D→Word (val S/val D)) ∧
      ∀ S',S'.length=m+3→Words S'→val S'=val S % val D→DivAt A D (P ++ (S' ++ Z)) (val S/val D :: ts) j M:=by
  have hlR:=h.lR
  have hdrop:R.drop j=nth R j :: R.drop (j+1):=by
    rw [List.drop_eq_getElem_cons (by omega),nth_lt (by omega)]
  have hj:nth R j=nth A j:=by
    have:nth (R.take (j+1)) j=nth (A.take (j+1)) j:=by rw [h.front]
    rwa [nth_take (by omega),nth_take (by omega)] at this
  have hvD:=val_lt hD
  rw [lD] at hvD
  have wT:=h.wR.drop (j+1)
  have v0:=val_nonneg wT
  have hsm:=h.small
  have hs:=val_split (R.drop (j+1)) (m+2) (by rw [List.length_drop];omega)
  have z0:=val_nonneg (wT.drop (m+2))
  have z1:=val_nonneg (wT.take (m+2))
  have pw:=wpow_pos (m+2)
  have hz:val ((R.drop (j+1)).drop (m+2))=0:=by
    by_cases hz:val ((R.drop (j+1)).drop (m+2))=0
    · exact hz
    · have:=imL (show 1≤val ((R.drop (j+1)).drop (m+2)) by omega) (show 0≤wpow (m+2) by omega)
      omega
  rw [hz,Int.mul_zero,Int.add_zero] at hs
  refine ⟨R.take j,(R.drop j).take (m+3),(R.drop j).drop (m+3),?_,?_,?_,(h.wR.drop j).take _,?_,?_,?_⟩
  · rw [List.take_append_drop,List.take_append_drop]
  · rw [List.length_take];omega
  · rw [List.length_take,List.length_drop];omega
  all_goals
    have eS:val ((R.drop j).take (m+3))=nth R j+18446744073709551616*val (R.drop (j+1)):=by
      rw [hdrop,List.take_succ_cons,val_cons,←hs]
    rw [eS]
    have wj:=h.wR.nth j
  · have:=wj.2;omega
  · intro hp
    exact ⟨Int.ediv_nonneg (by have:=wj.1;omega) (by omega),Int.ediv_lt_of_lt_mul hp (by have:=wj.2;omega)⟩
  · intro S' l1 w1 e1
    have hp:0<val D:=by omega
    have hZ:val ((R.drop j).drop (m+3))=0:=by
      rw [hdrop,List.drop_succ_cons];exact hz
    have ed:val ((R.take j ++ (S' ++ (R.drop j).drop (m+3))).drop j)=val S':=by
      rw [List.drop_append_of_le_length (by rw [List.length_take];omega),List.drop_of_length_le (by rw [List.length_take];omega),List.nil_append,val_append,hZ];simp
    refine ⟨?_,?_,?_,by rw [List.length_cons];have:=h.lt;omega,h.wt.cons ?_,?_,?_⟩
    · simp only [List.length_append,List.length_take,List.length_drop,l1];omega
    · exact (h.wR.take j).append (w1.append ((h.wR.drop j).drop _))
    · rw [List.take_append_of_le_length (by rw [List.length_take];omega),List.take_take,Nat.min_self]
      have:=congrArg (List.take j) h.front
      rwa [List.take_take,List.take_take,Nat.min_eq_left (by omega)] at this
    · exact ⟨Int.ediv_nonneg (by have:=wj.1;omega) (by omega),Int.ediv_lt_of_lt_mul hp (by have:=wj.2;omega)⟩
    · rw [ed,e1];exact Int.emod_lt_of_pos _ hp
    · have hA':A.drop j=nth A j :: A.drop (j+1):=by
        rw [List.drop_eq_getElem_cons (by omega),nth_lt (by omega)]
      rw [ed,e1,val_cons,hA',val_cons,←hj,←h.eq]
      have:=Int.mul_ediv_add_emod (nth R j+18446744073709551616*val (R.drop (j+1))) (val D)
      generalize (nth R j+18446744073709551616*val (R.drop (j+1)))/val D=Q at *
      generalize (nth R j+18446744073709551616*val (R.drop (j+1))) % val D=M' at *
      clear eS hs hz hZ ed e1
      grind
theorem divAt_start{A D:List Int}{k M:Nat}(hA:Words A)(hk:k=M)(hs:val (A.drop k)<val D):DivAt A D A [] k M :=
  ⟨rfl,hA,rfl,by simpa using hk,Words.nil,hs,by simp [val]⟩
theorem divAt_end{A D R ts:List Int}{M:Nat}{a b:Int}{s:Nat}(h:DivAt A D R ts 0 M)(hA:val A=a*2^s)(hD:val D=b*2^s)(hb:0<b):val ts=a/b∧val R/2^s=a % b:=by
  have p:=two_pow_pos s
  have e:=h.eq;have sm:=h.small;have v0:=val_nonneg h.wR
  rw [List.drop_zero,List.drop_zero] at e
  rw [List.drop_zero] at sm
  rw [hA] at e
  have hp:0<val D:=by rw [hD];exact Int.mul_pos hb p
  have q:val ts=(a*2^s)/val D:=by
    rw [←e,Int.add_comm,Int.add_mul_ediv_right _ _ (by omega),Int.ediv_eq_zero_of_lt v0 sm,Int.zero_add]
  have r:val R=(a*2^s) % val D:=by
    rw [←e,Int.add_comm,Int.add_mul_emod_self_right,Int.emod_eq_of_lt v0 sm]
  refine ⟨by rw [q,hD,Int.mul_ediv_mul_of_pos_left _ _ p],?_⟩
  rw [r,hD,Int.mul_comm a,Int.mul_comm b,Int.mul_emod_mul_of_pos _ _ p,Int.mul_ediv_cancel_left _ (by omega)]
set_option maxRecDepth 100000 in
set_option maxHeartbeats 3200000 in
theorem ldiv_calls{B B':Nat}{w:World}{v v':Value}{xs ys:List Int}(hT:Tab w)(h:NatAt B w v xs)(h':NatAt B' w v' ys)(hb:0<val ys)(hl:(ws (val xs)).length≤8796093022206) :
    Calls Tryz.prog 141 #[v,v'] w (RNat2 w (ws (val xs/val ys)) (ws (val xs % val ys))):=by
  have hvx:=val_nonneg h.words
  have HT:Hid (Tab w):=hT
  have HT0T:=Lib.hid hT
  clear hT
  go_enter Tryz.func141,Tryz.ntmps141
  go_wp2_with fail
  refine (trim_calls h).mono ?_
  rintro e w' ⟨v1,rfl,hn,rfl⟩
  go_wp2_with fail
  refine (trim_calls h').mono ?_
  rintro e w' ⟨v2,rfl,hn',rfl⟩
  clear h h'
  generalize val xs=nx at *
  generalize val ys=ny at *
  have hcmp:=lcmp_calls hn hn'
  rw [val_ws hvx,val_ws (by omega:0≤ny)] at hcmp
  have HC:=Lib.hid hcmp
  clear hcmp
  go_wp2_with fail
  refine HC.out.mono ?_
  rintro e w1 ⟨rfl,hb1⟩
  have HB1:=Lib.hid hb1
  have hn1:=hn.below hb1
  have hn2:=hn'.below hb1
  have HT1:Hid (Tab w1):=HT.out.below hb1
  clear hn hn' hb1 HC
  by_cases hlt:nx<ny
  · rw [cmpI_of_lt hlt]
    have hq:Hid (nx/ny=0∧nx % ny=nx):=divstep_pos hlt hvx
    clear hlt hvx
    have HN:=Lib.hid hn1;have HN2:=Lib.hid hn2
    clear hn1 hn2
    go_wp2_with (at_builtin;refine wpList_append_copy rfl w.heap.size rfl (.const (.slice none 0 0)) (.tmp 23) 22 rfl Tryz.underlying22 rfl rfl (World.ownsRow_nil _ _ _ _) HN.out HB1.out HB1.out.size ?_;intro v3 w3 hn3 hb3 _)
    have HN3:=Lib.hid hn3;have HB3:=Lib.hid hb3
    clear hn3 hb3
    go_wp2
    go_ret2
    exact ⟨_,_,rfl,by rw [hq.out.1,ws_zero];exact NatAt.nil _ _,by rw [hq.out.2];exact HN3.out,HB3.out⟩
  · have hc0:0≤cmpI nx ny:=by unfold cmpI;rw [if_neg hlt];split<;>omega
    generalize cmpI nx ny=cc at *
    have hp2:=ws_len_pos hb
    obtain ⟨g2,o2,m2,c2,rfl,e2,k2,q2,l2,_,hg2,hc2⟩:=hn2.open1 hp2
    by_cases h1:m2=0
    · subst h1
      have hny:Hid (nth (ws ny) 0=ny∧Word ny):=by
        have e:=val_ws (n:=ny) (by omega)
        have w0:=hn2.words.nth 0
        have hl1:(ws ny) = [nth (ws ny) 0]:=by
          apply List.ext_getElem?
          intro i
          cases i with
          | zero=>rw [nth_get? (by omega)];rfl
          | succ i=>rw [List.getElem?_eq_none (by have:=e2.out;omega)];rfl
        have:nth (ws ny) 0=ny:=by
          rw [hl1] at e;simp only [val,Int.mul_zero,Int.add_zero] at e
          conv=>rhs;rw [←e]
        exact ⟨this,by rw [←this];exact w0⟩
      have hcell:=hc2 0 (by omega)
      rw [hny.out.1,Nat.add_zero] at hcell
      have HN:=Lib.hid hn1
      have HB:=Lib.hid hb
      clear hn1 hn2 hc2 hp2 hb hlt e2
      go_wp2_with fail
      refine (lshort_calls HN.out hny.out.2 HB.out).mono ?_
      rintro e w2 ⟨v3,rfl,hn3,hb3⟩
      rw [val_ws hvx] at hn3
      have wr:Word (nx % ny):=by
        have:=hny.out.2.2;have:=HB.out
        exact ⟨Int.emod_nonneg _ (by omega),by have:=Int.emod_lt_of_pos nx (show 0<ny by omega);omega⟩
      rw [val_ws hvx]
      have HN3:=Lib.hid hn3;have HB3:=Lib.hid hb3
      clear hn3 hb3 hcell
      go_wp2_with fail
      refine (of_calls _ _ wr).mono ?_
      rintro e w3 ⟨v4,rfl,hn4,hb4⟩
      have HN4:=Lib.hid hn4;have HB4:=Lib.hid hb4
      clear hn4 hb4 wr
      go_wp2
      go_ret2
      exact ⟨_,_,rfl,(HN3.out.below HB4.out).mono HB1.out.size,HN4.out.mono (Nat.le_trans HB1.out.size HB3.out.size),below_then HB1.out (below_then HB3.out HB4.out)⟩
    · obtain ⟨m,rfl⟩:∃ m,m2=m+1:=⟨m2-1,by omega⟩
      have htop:Hid (Word (nth (ws ny) (m+1))):=hn2.words.nth _
      have hcell:=hc2 (m+1) (by omega)
      obtain ⟨A1,L1,c1,rfl,e1,k1,q1⟩:=hn1.open
      have hL1:L1≤8796093022206:=by have:=e1.out;omega
      have hL12:m+2≤L1:=by
        have h3:=e1.out;have h4:=e2.out
        by_cases hh:m+2≤L1
        · exact hh
        · have:=cmpI_len (a:=nx) (b:=ny) (by omega) hvx
          unfold cmpI at this;rw [if_neg hlt] at this;split at this<;>omega
      have b1:=blen_le (n:=nth (ws ny) (m+1)) (k:=64) (by have:=htop.out.2;omega)
      have b2:=blen_pos (n:=nth (ws ny) (m+1)) (by
        have:=ws_last_ne hb;rw [e2.out,Nat.add_sub_cancel] at this;have:=htop.out.1;omega)
      obtain ⟨s,hs⟩:∃ s,Hid (blen (nth (ws ny) (m+1))+s=64):=⟨64-blen (nth (ws ny) (m+1)),by show _=_;omega⟩
      have hs64:s<64:=by have:=hs.out;omega
      have hblen:blen ny=64*(m+1)+blen (nth (ws ny) (m+1)):=by rw [blen_last hb,e2.out];rfl
      have eD:Hid ((ws (ny*2^s)).length=m+2):=by
        have hbl:blen (ny*2^s)=64*(m+2):=by rw [blen_mul_pow hb,hblen];have:=hs.out;omega
        have p:=two_pow_pos s
        have hp:=Int.mul_pos hb p
        show _=_
        have u1:=blen_lt (ny*2^s)
        have u2:=blen_ge hp
        rw [hbl] at u1 u2
        rw [←wpow_eq] at u1
        have l1:=ws_length_le u1
        by_cases hl:m+1<(ws (ny*2^s)).length
        · omega
        · have:=lt_wpow_ws (n:=ny*2^s) (by omega)
          have h2:=wpow_le (m:=(ws (ny*2^s)).length) (n:=m+1) (by omega)
          rw [wpow_eq (m+1)] at h2
          have:=two_pow_le (j:=64*(m+1)) (k:=64*(m+2)-1) (by omega)
          omega
      have HN:=Lib.hid hn1;have HN2:=Lib.hid hn2;have HBP:=Lib.hid hb;have HLT:=Lib.hid hlt
      clear hn1 hn2 hc2 hp2 hb hlt b1 b2 hblen
      go_wp2_with fail
      refine (lead64_calls _ _ htop.out).mono ?_
      rintro e w2 ⟨rfl,rfl⟩
      rw [show (64:Int)-(blen (nth (ws ny) (m+1)):Int)=(s:Int) from by have:=hs.out;omega]
      have hsd0:(s:Int)/64=((0:Nat):Int):=by omega
      have hsm0:(s:Int) % 64=(s:Int):=by omega
      have SD:=Lib.hid hsd0;have SM:=Lib.hid hsm0
      clear hsd0 hsm0 hcell
      go_wp2_with fail
      refine (lshl_calls (s:Int) 0 s HN2.out (by omega) (by omega) SD.out SM.out (by rw [val_ws (by have:=HBP.out;omega),e2.out];omega)).mono ?_
      rintro e w3 ⟨vd,rfl,hnd,hb3⟩
      rw [val_ws (by have:=HBP.out;omega),Int.toNat_natCast] at hnd
      obtain ⟨gd,od,md,cd,rfl,ed,kd,qd,ld,hgd1,hgd,hcd⟩:=hnd.open1 (by rw [eD.out];omega)
      obtain rfl:m+1=md:=by have:=eD.out;have:=ed.out;omega
      have wD:Hid (Words (ws (ny*2^s))):=hnd.words
      have vD:Hid (val (ws (ny*2^s))=ny*2^s):=val_ws (by have:=Int.mul_pos HBP.out (two_pow_pos s);omega)
      have HB3:=Lib.hid hb3
      have HCD:Hid (∀ j,j<m+1+1→w3.cell? ⟨gd,od+j,none⟩=some (.int .u64 (nth (ws (ny*2^s)) j))):=hcd
      have HN3:Hid (NatAt B w3 (.slice A1 L1 c1) (ws nx)):=HN.out.below hb3
      have hmk:=make_run 22 Tryz.underlying22 (L1+1) (by omega)
      rw [show ((L1+1:Nat):Int)=(L1:Int)+1 from by omega] at hmk
      clear hb3 hnd hcd ed
      generalize ws (ny*2^s)=D at *
      have hgdl:gd<w3.heap.size:=hgd
      have hga:Hid (w1.heap.size≤gd):=hgd1
      go_wp2_with fail
      refine (lshl_calls (s:Int) 0 s (HN3.out.below (below_also _ _)) (by omega) (by omega) SD.out SM.out (by rw [val_ws hvx,e1.out];omega)).mono ?_
      rintro e w4 ⟨va,rfl,hna,hb4⟩
      rw [val_ws hvx,Int.toNat_natCast] at hna
      have HNA:=Lib.hid hna
      have hrow0:Hid (RowAt w4 w3.heap.size (List.replicate (L1+1) 0)):=(RowAt.made w3 (L1+1)).below hb4
      have hB4:Hid (Below w3.heap.size w3 w4):=below_then (below_also _ _) hb4
      have hlA:Hid ((ws (nx*2^s)).length≤L1+1):=by
        refine ws_length_le ?_
        have h1:=lt_wpow_ws hvx
        rw [e1.out] at h1
        rw [wpow_succ]
        have h2:=two_pow_le (j:=s) (k:=64) (by omega)
        have e64:(2:Int)^64=18446744073709551616:=by decide
        have p:=two_pow_pos s
        have:=Int.mul_le_mul (show nx≤wpow L1 by omega) (show (2:Int)^s≤18446744073709551616 by omega) (by omega) (by have:=wpow_pos L1;omega)
        have:=Int.mul_lt_mul_of_pos_right h1 p
        have:=imL (show (2:Int)^s≤18446744073709551616 by omega) (show 0≤wpow L1 by have:=wpow_pos L1;omega)
        rw [Int.mul_comm 18446744073709551616];omega
      clear hna hb4
      go_wp2_with (refine wpList_copy_row rfl (.tmp 53) (.tmp 56) 22 rfl Tryz.underlying22 rfl rfl hrow0.out (by simp) HNA.out hlA.out ?_;intro w5 hrow5 hb5)
      obtain ⟨M,hM⟩:∃ M,Hid (L1=m+1+M):=⟨L1-(m+1),by show _=_;omega⟩
      have hmk2:=make_run 22 Tryz.underlying22 M (by have:=hM.out;omega)
      rw [show (M:Int)=(L1:Int)-((m:Int)+1+1)+1 from by have:=hM.out;omega] at hmk2
      have HB5:Hid (Below w3.heap.size w3 w5):=hB4.out.trans hb5
      have HB:Hid (Below w.heap.size w w5):=below_then HB1.out (below_then HB3.out HB5.out)
      have HCD5:Hid (∀ j,j<m+2→w5.cell? ⟨gd,od+j,none⟩=some (.int .u64 (nth D j))):=fun j hj=>((bcell HB5.out).1 _ _ hgdl).trans (HCD.out j hj)
      have hnz:=val_ws (n:=nx*2^s) (Int.mul_nonneg hvx (by have:=two_pow_pos s;omega))
      obtain ⟨A,hA⟩:∃ A,A=ws (nx*2^s) ++ (List.replicate (L1+1) (0:Int)).drop (ws (nx*2^s)).length:=⟨_,rfl⟩
      have vA:Hid (val A=nx*2^s):=by
        show _=_
        rw [hA,List.drop_replicate,val_append,val_zeros,hnz];simp
      have lA:Hid (A.length=L1+1):=by
        show _=_
        rw [hA];have:=hlA.out;simp;omega
      have wA:Hid (Words A):=by rw [hA,List.drop_replicate];exact (words_ws _).append (Words.zeros _)
      rw [←hA] at hrow5
      have HR5:=Lib.hid hrow5
      have hga3:Hid (gd<w3.heap.size):=hgdl
      have h35:w3.heap.size<w5.heap.size:=hrow5.lt
      have HT5:Hid (Tab w5):=(HT1.out.below HB3.out).below HB5.out
      have hbase:Hid (w.heap.size≤w3.heap.size):=Nat.le_trans HB1.out.size HB3.out.size
      clear hA hnz hrow5 hb5 hB4 hrow0 hlA HNA HB1 HB3 HB5 HCD HN3 HT1 HN HN2 hgdl hga hmk
      generalize w3.heap.size=G at *
      go_simp
      have hMb:M≤8796093022206:=by have:=hM.out;omega
      have hM1:1≤M:=by have:=hM.out;omega
      have hQ0:Hid (RowAt (w5.alloc (.cells (cellsOf (List.replicate M 0)) 48)) w5.heap.size (List.replicate M 0)):=RowAt.made _ _
      have hR0:Hid (RowAt (w5.alloc (.cells (cellsOf (List.replicate M 0)) 48)) G A):=HR5.out.below (below_also _ _)
      have hB0:Hid (Below w.heap.size w (w5.alloc (.cells (cellsOf (List.replicate M 0)) 48))):=below_plus HB.out _
      have hC0:Hid (∀ j,j<m+2→(w5.alloc (.cells (cellsOf (List.replicate M 0)) 48)).cell? ⟨gd,od+j,none⟩=some (.int .u64 (nth D j))):=fun j hj=>((bcell (below_also w5 _)).1 _ _ (by have:=hga3.out;omega)).trans (HCD5.out j hj)
      have hT0:Hid (Tab (w5.alloc (.cells (cellsOf (List.replicate M 0)) 48))):=HT5.out.below (below_also _ _)
      clear HCD5 HT5 HB HR5
      have hbase5:Hid (w.heap.size≤w5.heap.size):=by have:=hbase.out;show _≤_;omega
      go_wp2
      go_loopw [12] (fun i wr=>∃ (k:Nat) (R ts:List Int),k≤M∧i = .int .i64 ((k:Int)-1)∧RowAt wr G R∧RowAt wr w5.heap.size (List.replicate k 0 ++ ts)∧Below w.heap.size w wr∧Tab wr∧Hid (∀ j,j<m+2→wr.cell? ⟨gd,od+j,none⟩=some (.int .u64 (nth D j)))∧Hid (DivAt A D R ts k M)) (fun i _=>(intOf i+1).toNat)
      case atStart =>
        refine ⟨M,A,[],Nat.le_refl _,rfl,hR0.out,by rw [List.append_nil];exact hQ0.out,hB0.out,hT0.out,hC0,divAt_start wA.out rfl ?_⟩
        have s1:=val_split A M (by rw [lA.out];have:=hM.out;omega)
        have t0:=val_nonneg (wA.out.take M)
        have d0:=val_nonneg (wA.out.drop M)
        have n1:=lt_wpow_ws hvx
        rw [vA.out] at s1
        rw [e1.out,hM.out,Nat.add_comm (m+1) M,wpow_add] at n1
        have n2:wpow (m+1)≤ny:=by
          by_cases hh:wpow (m+1)≤ny
          · exact hh
          · have:=ws_length_le (n:=ny) (k:=m+1) (by omega)
            have:=e2.out;omega
        have p:=two_pow_pos s
        have pM:=wpow_pos M
        rw [vD.out]
        have c1:=imR n2 (show 0≤(2:Int)^s by omega)
        have c2:=Int.mul_lt_mul_of_pos_right n1 p
        have c3:wpow M*val (A.drop M)<wpow M*(wpow (m+1)*2^s):=by
          rw [Int.mul_assoc] at c2;omega
        have c4:=Int.lt_of_mul_lt_mul_left c3 (by omega)
        omega
      case round =>
        obtain ⟨k,R,ts,hk,rfl,hrow,hq,hbel,hTab,hCd,hdv⟩:=hrel
        by_cases h0:0<k
        · obtain ⟨j,rfl⟩:∃ j,k=j+1:=⟨k-1,by omega⟩
          have e0:((j+1:Nat):Int)-1=(j:Int):=by omega
          rw [e0]
          clear e0
          obtain ⟨P,S,Z,rfl,lP,lS,wS,hSlt,hSw,hfin⟩:=divAt_step hdv.out eD.out wD.out wA.out (by rw [lA.out];have:=hM.out;omega)
          have hjm:j+(m+3)≤L1+1:=by have:=hM.out;omega
          have hgw:gd<wr.heap.size:=by have:=hga3.out;have:=hrow.lt;omega
          have hpos:0<val D:=by
            have:=val_nonneg wS;omega
          have hQW:=hSw hpos
          have hst:=step_calls G j (L1+1-j) gd od cd m P S Z D wr lP lS eD.out wS wD.out hrow hgw (by have:=hga3.out;omega) hCd.out (by omega) (by have:=hM.out;omega) (by omega) (by omega) (by omega) hSlt
          have HST:=Lib.hid hst
          generalize val S/val D=Q at *
          have HQW:=Lib.hid hQW
          have HF:=Lib.hid hfin
          have Hq:=Lib.hid hq;have HTab:=Lib.hid hTab;have HBel:=Lib.hid hbel
          clear hst hfin hQW hSlt hSw wS lS lP hpos hdv hq hTab hbel hrow
          go_wp2_with fail
          rw [show j+(m+1+1)+1-j=m+3 from by omega]
          refine HST.out.mono ?_
          rintro e w6 ⟨rfl,hgb,S',l',wS',hrow',vS'⟩
          have hq6:RowAt w6 w5.heap.size (List.replicate (j+1) 0 ++ ts):=(hgb.block _ Hq.out.lt (by simp;omega)).trans Hq.out
          have hcell6:w6.cell? ⟨w5.heap.size,j,none⟩=some (.int .u64 (nth (List.replicate (j+1) 0 ++ ts) j)):=hq6.cell (by simp;omega)
          have hfr6:w6.frozen? ⟨w5.heap.size,j,none⟩=false:=hq6.frozen _
          have hB6:Hid (Below w.heap.size w (w6.setCell ⟨w5.heap.size,j,none⟩ (.int .u64 Q))):=(HBel.out.grown hgb HBel.out.size (by intro k hk;injection hk with hk;rw [←hk];exact hbase.out)).setCell hbase5.out _
          have hT6:Hid (Tab (w6.setCell ⟨w5.heap.size,j,none⟩ (.int .u64 Q))):=HT0T.out.below hB6.out
          have hR6:Hid (RowAt (w6.setCell ⟨w5.heap.size,j,none⟩ (.int .u64 Q)) G (P ++ (S' ++ Z))):=(heap_setCell_other w6 ⟨w5.heap.size,j,none⟩ G _ (by show G≠w5.heap.size;omega)).trans hrow'
          have hQ6:Hid (RowAt (w6.setCell ⟨w5.heap.size,j,none⟩ (.int .u64 Q)) w5.heap.size (List.replicate j 0 ++ (Q :: ts))):=by
            have:=hq6.set j Q
            rw [List.replicate_succ',List.append_assoc,List.set_append_right _ _ (by simp),List.length_replicate,Nat.sub_self] at this
            exact this
          have hC6:Hid (∀ i,i<m+2→(w6.setCell ⟨w5.heap.size,j,none⟩ (.int .u64 Q)).cell? ⟨gd,od+i,none⟩=some (.int .u64 (nth D i))):=fun i hi=>by
            rw [World.cell?_of_block (w:=w6) (heap_setCell_other w6 ⟨w5.heap.size,j,none⟩ gd _ (by show gd≠w5.heap.size;have:=hga3.out;omega)),gb_cell hgb hgw (by have:=hga3.out;omega)]
            exact hCd.out i hi
          have hD6:Hid (DivAt A D (P ++ (S' ++ Z)) (Q :: ts) j M):=HF.out S' l' wS' vS'
          clear hgb hrow' vS' wS' l' hq6 hgw HST HF Hq HBel hCd
          go_wp2
          go_roundw
          case rel=>exact ⟨j,_,_,by omega,rfl,hR6.out,hQ6.out,hB6.out,hT6.out,hC6,hD6⟩
          case measure=>simp [intOf]
        · obtain rfl:k=0:=by omega
          obtain ⟨f1,f2⟩:=divAt_end hdv.out vA.out vD.out HBP.out
          have wts:=hdv.out.wt
          have wR:=hdv.out.wR
          have lts:=hdv.out.lt
          have lR:=hdv.out.lR
          rw [List.replicate_zero,List.nil_append] at hq
          have hn1:Hid (NatAt w.heap.size wr (.slice (some ⟨w5.heap.size,0,none⟩) M M) ts):=hq.nat hbase5.out wts _ (by omega) (by omega)
          have hn2:Hid (NatAt w.heap.size wr (.slice (some ⟨G,0,none⟩) (L1+1) (L1+1)) R):=hrow.nat hbase.out wR _ (by rw [lR,lA.out]) (by rw [lR,lA.out];omega)
          have F1:=Lib.hid f1;have F2:=Lib.hid f2;have HTab:=Lib.hid hTab;have HBel:=Lib.hid hbel
          clear hdv hCd hq hrow f1 f2 wts wR lts lR hTab hbel
          go_wp2_with fail
          refine (lshr_calls (s:Int) 0 s HTab.out hn2.out (by omega) (by omega) SD.out SM.out).mono ?_
          rintro e w6 ⟨v6,rfl,hn6,hb6⟩
          rw [Int.toNat_natCast,F2.out] at hn6
          have hn1':Hid (NatAt w.heap.size w6 (.slice (some ⟨w5.heap.size,0,none⟩) M M) ts):=hn1.out.below hb6
          have hn6':Hid (NatAt w.heap.size w6 v6 (ws (nx % ny))):=hn6.mono HBel.out.size
          have hB6:Hid (Below w.heap.size w w6):=below_then HBel.out hb6
          clear hn6 hb6
          go_wp2_with fail
          refine (trim_calls hn1'.out).mono ?_
          rintro e w7 ⟨v7,rfl,hn7,rfl⟩
          rw [F1.out] at hn7
          have HN7:=Lib.hid hn7
          clear hn7
          go_wp2
          go_ret2
          exact ⟨_,_,rfl,HN7.out,hn6'.out,hB6.out⟩
set_option maxHeartbeats 800000 in
theorem norm_calls{B:Nat}{w:World}{v:Value}{xs:List Int}(h:NatAt B w v xs):Calls Tryz.prog 71 #[v] w (RNat w (ws (val xs))):=by
  obtain ⟨A,L,c,g,o,rfl,ha,hk,hq,hL,hg,hc,e,wx⟩:=h.sub
  have htl:Hid (trimTo xs L=(ws (val xs)).length):=by show _=_;rw [←trimTo_length wx.out,e.out]
  have htt:Hid (xs.take (trimTo xs L)=ws (val xs)):=by show _=_;rw [←take_trimTo wx.out,e.out]
  have htle:trimTo xs L≤L:=trimTo_le xs L
  have HN:=Lib.hid h
  clear h
  generalize hK:trimTo xs L=K at *
  have HK:=Lib.hid hK
  clear hK
  go_enter Tryz.func71,Tryz.ntmps71
  go_wp2
  go_loop [3] (fun i=>∃ k:Nat,k≤L∧i = .int .i64 k∧Hid (K=trimTo xs k)) (fun i=>(intOf i).toNat)
  case atStart=>exact ⟨L,Nat.le_refl _,rfl,HK.out.symm⟩
  case round =>
    obtain ⟨k,hk',rfl,hr⟩:=hrel
    by_cases h0:0<k∧nth xs (k-1)=0
    · obtain ⟨h0,hz⟩:=h0
      obtain ⟨m,rfl⟩:∃ m,k=m+1:=⟨k-1,by omega⟩
      rw [Nat.add_sub_cancel] at hz
      obtain rfl:=ha (by omega)
      have hcm:=hc m (by omega)
      have hb:(nth xs m == 0)=true:=by simpa using hz
      have hr':Hid (K=trimTo xs m):=by show _=_;rw [hr.out,trimTo,if_pos hz]
      clear hz hr
      go_wp2
      go_round
      case rel=>exact ⟨m,by omega,rfl,hr'⟩
      case measure=>simp [intOf]
    · have hK:K=k:=by
        rw [hr.out]
        cases k with
        | zero=>rfl
        | succ m =>
          rw [Nat.add_sub_cancel] at h0
          rw [trimTo,if_neg (fun hz=>h0 ⟨by omega,hz⟩)]
      subst hK
      have hcut:NatAt B w (.slice A K c) (ws (val xs)):=by
        obtain ⟨A',c',e1,h1,h2,h3,h5,h4⟩:=HN.out
        simp only [Value.slice.injEq] at e1
        obtain ⟨rfl,_,rfl⟩:=e1
        have hl:(ws (val xs)).length=K:=htl.out.symm
        refine ⟨_,_,by rw [hl],by omega,⟨h2.1,by omega⟩,words_ws _,h5,fun hp=>?_⟩
        obtain ⟨g',o',e2,hB,hg',hc'⟩:=h4 (by have:=e.out;omega)
        refine ⟨g',o',e2,hB,hg',fun j hj=>?_⟩
        rw [hc' j (by have:=e.out;omega),←htt.out,nth_take (by omega)]
      have HC:=Lib.hid hcut
      clear hcut
      by_cases hk0:0<K
      · obtain ⟨m,rfl⟩:∃ m,K=m+1:=⟨K-1,by omega⟩
        obtain rfl:=ha (by omega)
        have hcm:=hc m (by omega)
        have hb:(nth xs m == 0)=false:=by
          have:nth xs m≠0:=fun hz=>h0 ⟨by omega,by rw [Nat.add_sub_cancel];exact hz⟩
          simpa using this
        clear h0 hr
        go_wp2_with (at_builtin;refine wpList_append_copy rfl w.heap.size rfl (.tmp 19) (.tmp 22) 23 rfl Tryz.underlying23 rfl rfl (World.ownsRow_nil _ _ _ _) HC.out (Below.refl _ _) (Nat.le_refl _) ?_;intro v3 w3 hn3 hb3 _)
        have HN3:=Lib.hid hn3;have HB3:=Lib.hid hb3
        clear hn3 hb3
        go_wp2
        go_ret
        exact ⟨_,rfl,HN3.out,HB3.out⟩
      · obtain rfl:K=0:=by omega
        clear h0 hr
        go_wp2_with (at_builtin;refine wpList_append_copy rfl w.heap.size rfl (.tmp 19) (.tmp 22) 23 rfl Tryz.underlying23 rfl rfl (World.ownsRow_nil _ _ _ _) HC.out (Below.refl _ _) (Nat.le_refl _) ?_;intro v3 w3 hn3 hb3 _)
        have HN3:=Lib.hid hn3;have HB3:=Lib.hid hb3
        clear hn3 hb3
        go_wp2
        go_ret
        exact ⟨_,rfl,HN3.out,HB3.out⟩
def greatB(n:Int):Bool:=decide (1024<(ws n).length)
set_option maxHeartbeats 800000 in
theorem great_calls{B:Nat}{w:World}{v:Value}{xs:List Int}(h:NatAt B w v xs):Calls Tryz.prog 117 #[v] w fun e w'=>e = .returned (.bool (greatB (val xs)))∧w=w':=by
  obtain ⟨A,L,c,g,o,rfl,ha,hk,hq,hL,hg,hc,e,wx⟩:=h.sub
  have htl:Hid (greatB (val xs)=decide (1024<trimTo xs L)):=by show _=_;rw [greatB,←trimTo_length wx.out,e.out]
  clear h
  go_enter Tryz.func117,Tryz.ntmps117
  go_wp2
  go_loop [3,8] (fun n i=>∃ k t:Nat,k≤L∧i = .int .i64 k∧n = .int .i64 t∧t≤k∧Hid (t=trimTo xs k)) (fun _ i=>L-(intOf i).toNat)
  case atStart=>exact ⟨0,0,by omega,rfl,rfl,by omega,rfl⟩
  case round =>
    obtain ⟨k,t,hk',rfl,rfl,htk,hr⟩:=hrel
    by_cases hlt:k<L
    · obtain rfl:=ha (by omega)
      have hck:=hc k hlt
      by_cases hz:nth xs k=0
      · have hb:(nth xs k != 0)=false:=by simpa using hz
        have hr':Hid (t=trimTo xs (k+1)):=by show _=_;rw [trimTo,if_pos hz];exact hr.out
        clear hz hr
        go_wp2
        go_round
        case rel=>exact ⟨k+1,t,by omega,by go_num,rfl,by omega,hr'⟩
        case measure=>simp [intOf];omega
      · have hb:(nth xs k != 0)=true:=by simpa using hz
        have hr':Hid (k+1=trimTo xs (k+1)):=by show _=_;rw [trimTo,if_neg hz]
        clear hz hr
        go_wp2
        go_round
        case rel=>exact ⟨k+1,k+1,by omega,by go_num,by go_num,by omega,hr'⟩
        case measure=>simp [intOf];omega
    · obtain rfl:L=k:=by omega
      have hb:Hid (greatB (val xs)=decide (1024<(t:Int))):=by
        show _=_
        rw [htl.out,←hr.out,Bool.eq_iff_iff];simp;omega
      clear hr htl
      go_wp2
      go_ret
      exact ⟨by rw [hb.out];rfl,rfl⟩
theorem of3_calls(x:Int)(w:World)(hx:Word x):Calls Tryz.prog 106 #[.int .u64 x] w (RNat w (ws x)):=by
  have hn:Hid (NatAt w.heap.size (w.alloc (.cells #[.int .u64 x] 48)) (.slice (some ⟨w.heap.size,0,none⟩) 1 1) [x]):=by
    refine ⟨_,1,rfl,by simp,⟨by omega,by simp⟩,Words.nil.cons hx,by simp,fun _=>⟨w.heap.size,0,rfl,Nat.le_refl _,by simp,fun j hj=>?_⟩⟩
    obtain rfl:j=0:=by simpa using hj
    rw [Nat.zero_add]
    have:(w.alloc (.cells #[.int .u64 x] 48)).cell? ⟨w.heap.size,0,none⟩=some (.int .u64 x):=by go_simp
    rw [this];rfl
  have hv:Hid (val [x]=x):=by show _=_;simp [val]
  clear hx
  go_enter Tryz.func106,Tryz.ntmps106
  go_wp2_with fail
  refine (norm_calls hn.out).mono ?_
  rintro e w' ⟨v,rfl,hn1,hb1⟩
  rw [hv.out] at hn1
  have HN1:=Lib.hid hn1;have HB1:=Lib.hid hb1
  clear hn1 hb1
  go_wp2
  go_ret
  exact ⟨_,rfl,HN1.out.mono (by simp),below_then (below_also _ _) HB1.out⟩
theorem word_calls{B:Nat}{w:World}{v:Value}{xs:List Int}(h:NatAt B w v xs)(i:Int)(k:Nat)(hi:i=(k:Int)) :
    Calls Tryz.prog 116 #[v,.int .i64 i] w fun e w'=>e = .returned (.int .u64 (nth xs k))∧w=w':=by
  subst hi
  obtain ⟨A,L,c,g,o,rfl,ha,hk,hq,hL,hg,hc,e,wx⟩:=h.sub
  clear h
  by_cases hlt:k<L
  · obtain rfl:=ha (by omega)
    have hck:=hc k hlt
    go_enter Tryz.func116,Tryz.ntmps116
    go_wp2
    go_ret
    exact ⟨rfl,rfl⟩
  · have hz:Hid (nth xs k=0):=nth_ge (by have:=e.out;omega)
    have hkL:¬ ((k:Int)<(L:Int)):=by omega
    go_enter Tryz.func116,Tryz.ntmps116
    go_wp2
    go_ret
    rw [hz.out];exact ⟨rfl,rfl⟩
def OwnL(w:World)(B:Nat)(v:Value)(xs:List Int):Prop:=w.ownsRow B 48 1 v xs.length (xs.map (Value.int .u64))
theorem OwnL.nil(w:World)(B:Nat):OwnL w B (.slice none 0 0) []:=World.ownsRow_nil _ _ _ _
theorem OwnL.nat{w:World}{B:Nat}{v:Value}{xs:List Int}(h:OwnL w B v xs)(hl:xs.length≤17592186044415)(hw:Words xs):NatAt B w v xs:=nat_of_own hl hw h
theorem OwnL.row{w:World}{G B n:Nat}{xs:List Int}(h:RowAt w G xs)(hB:B≤G)(hl:xs.length=n)(hn:n≤17592186044415):OwnL w B (.slice (some ⟨G,0,none⟩) n n) xs:=by
  subst hl
  refine ⟨by simp,.inr ⟨G,_,_,rfl,hB,h,Nat.le_refl _,by simp only [maxLen];omega,by simp [cellsOf],?_⟩⟩
  simp only [cellsOf]
  exact List.take_of_length_le (by simp)
theorem wpList_append_word{w0 W:World}(B:Nat){ops:Array Oper}{rest:List Oper}{o:Oper}{a:Act}{Q:Exit→Act→World→Prop}(hgd:o.guard=none)(s x:Operand)(t:TypeId)
    (ho:o.op = .call { callee:=.builtin .append,args:=#[s,x],argTypes:=#[t,t] }) (ht:Tryz.prog.underlying t=some (.slice 48))
    (v:Value) (zs:List Int) (y:Int) (hs:a.eval s=v) (hx:a.eval x = .slice (some ⟨W.heap.size,0,none⟩) 1 1)
    (HO:OwnL W B v zs) (HB:Below B w0 W) (hbase:B≤W.heap.size) (hl:zs.length+1≤17592186044415)
    (h:∀ v1 w1,OwnL w1 B v1 (zs ++ [y])→Below B w0 w1→wpList Tryz.prog ops Q rest (a.put o.dst v1) w1) :
    wpList Tryz.prog ops Q (o :: rest) a (W.alloc (.cells #[.int .u64 y] 48)):=by
  obtain ⟨i0,hi,h0,h1,h2⟩:=info_parts info_u64
  refine wpList_append_own (W.alloc (.cells #[.int .u64 y] 48)) hgd s x t ho B _ i0 (.int .u64 0) 1 8 ht hi h0 h1 h2 rfl (by decide) v zs.length (zs.map (Value.int .u64)) hs (HO.alloc _) ⟨W.heap.size,0,none⟩ 1 1 [.int .u64 y] hx rfl
    (cell_one_new _ _ _) (by simp [Value.oneCell']) (by simp only [maxLen];omega) (by omega) (by simp;omega) ?_
  intro v1 w1 hown hg _
  refine h v1 w1 ?_ ((HB.alloc hbase _).grown hg (by simp;omega) (fun k hk=>(World.ownsRow.lt HO k hk).1))
  unfold OwnL
  simpa using hown
theorem add3_carry{x y c s:Int}(hx:Word x)(hy:Word y)(hc:c=0∨c=1)(hs:s=lo64 (x+y+c)):hi64 (x+y+c)=(if s<x then 1 else if s=x∧c=1 then 1 else 0)∧(s=x∧c=1→¬ s<x→0<y):=by
  have:=hx.1;have:=hx.2;have:=hy.1;have:=hy.2
  unfold lo64 at hs
  unfold hi64
  refine ⟨?_,by omega⟩
  split
  · omega
  · split<;>omega
theorem sub3_borrow{x y c:Int}(hx:Word x)(hy:Word y)(hc:c=0∨c=1):-hi64 (x-y-c)=(if x<y then 1 else if x=y∧c=1 then 1 else 0):=by
  have:=hx.1;have:=hx.2;have:=hy.1;have:=hy.2
  unfold hi64
  split
  · omega
  · split<;>omega
theorem add3_next{zs X Y:List Int}{k:Nat}{s c c':Int}(hl:zs.length=k)(h:val zs+wpow k*c=val (X.take k)+val (Y.take k))(e:s+18446744073709551616*c'=nth X k+nth Y k+c) :
    val (zs ++ [s])+wpow (k+1)*c'=val (X.take (k+1))+val (Y.take (k+1)):=by
  rw [val_append,hl,wpow_succ,val_take_more,val_take_more]
  simp only [val,Int.mul_zero,Int.add_zero]
  have:wpow k*(s+18446744073709551616*c')=wpow k*(nth X k+nth Y k+c):=by rw [e]
  generalize nth X k=x at *
  generalize nth Y k=y at *
  clear e
  grind
theorem sub3_next{zs X Y:List Int}{k:Nat}{s c c':Int}(hl:zs.length=k)(h:val zs-wpow k*c=val (X.take k)-val (Y.take k))(e:s-18446744073709551616*c'=nth X k-nth Y k-c) :
    val (zs ++ [s])-wpow (k+1)*c'=val (X.take (k+1))-val (Y.take (k+1)):=by
  rw [val_append,hl,wpow_succ,val_take_more,val_take_more]
  simp only [val,Int.mul_zero,Int.add_zero]
  have:wpow k*(s-18446744073709551616*c')=wpow k*(nth X k-nth Y k-c):=by rw [e]
  generalize nth X k=x at *
  generalize nth Y k=y at *
  clear e
  grind
set_option maxHeartbeats 3200000 in
set_option maxRecDepth 100000 in
theorem add3_calls{B B':Nat}{w:World}{v v':Value}{xs ys:List Int}(h:NatAt B w v xs)(h':NatAt B' w v' ys)(hx:xs.length≤17592186044414)(hy:ys.length≤17592186044414) :
    Calls Tryz.prog 105 #[v,v'] w (RNat w (ws (val xs+val ys))):=by
  obtain ⟨A1,L1,c1,rfl,e1,k1,q1⟩:=h.open
  obtain ⟨A2,L2,c2,rfl,e2,k2,q2⟩:=h'.open
  have b1:L1≤17592186044414:=by have:=e1.out;omega
  have b2:L2≤17592186044414:=by have:=e2.out;omega
  have HX:=Lib.hid h;have HY:=Lib.hid h'
  have wx:Hid (Words xs):=h.words
  have wy:Hid (Words ys):=h'.words
  clear h h' hx hy
  obtain ⟨L,hL⟩:∃ L,Hid (L=max L1 L2):=⟨_,rfl⟩
  have l1:L1≤L:=by have:=hL.out;omega
  have l2:L2≤L:=by have:=hL.out;omega
  have l3:L≤17592186044414:=by have:=hL.out;omega
  have hmax:(max (L1:Int) (L2:Int))=(L:Int):=by have:=hL.out;omega
  have hmax1:∀ k:Nat,k<L→decide ((k:Int)<max (L1:Int) (L2:Int))=true:=fun k hk=>by simp;have:=hL.out;omega
  have hmax0:∀ k:Nat,¬ k<L→decide ((k:Int)<max (L1:Int) (L2:Int))=false:=fun k hk=>by simp;have:=hL.out;omega
  go_enter Tryz.func105,Tryz.ntmps105
  go_wp2
  go_loopw [5,6,7] (fun o c i wr=>∃ (k:Nat) (zs:List Int) (cc:Int),k≤L∧i = .int .i64 k∧c = .int .u64 cc∧(cc=0∨cc=1)∧OwnL wr w.heap.size o zs∧Below w.heap.size w wr∧Hid (zs.length=k∧Words zs∧val zs+wpow k*cc=val (xs.take k)+val (ys.take k))) (fun _ _ i _=>L-(intOf i).toNat)
  case atStart=>exact ⟨0,[],0,by omega,rfl,rfl,by omega,OwnL.nil _ _,Below.refl _ _,rfl,Words.nil,by simp [val]⟩
  case round =>
    obtain ⟨k,zs,cc,hk,rfl,rfl,hcc,ho,hbel,hr⟩:=hrel
    have HO:=Lib.hid ho;have HB:=Lib.hid hbel
    have hlz:zs.length+1≤17592186044415:=by have:=hr.out.1;omega
    by_cases hlt:k<L
    · have hdec:=hmax1 k hlt
      have HWx:Hid (Calls Tryz.prog 116 #[.slice A1 L1 c1,.int .i64 (k:Int)] wr fun e w'=>e = .returned (.int .u64 (nth xs k))∧wr=w'):=word_calls (HX.out.below hbel) (k:Int) k rfl
      have HWy:Hid (Calls Tryz.prog 116 #[.slice A2 L2 c2,.int .i64 (k:Int)] wr fun e w'=>e = .returned (.int .u64 (nth ys k))∧wr=w'):=word_calls (HY.out.below hbel) (k:Int) k rfl
      have wxk:=wx.out.nth k
      have wyk:=wy.out.nth k
      obtain ⟨s,hs⟩:∃ s,s=lo64 (nth xs k+nth ys k+cc):=⟨_,rfl⟩
      obtain ⟨hcar,hyp⟩:=add3_carry wxk wyk hcc hs
      have hlh:=lo_hi (nth xs k+nth ys k+cc)
      rw [←hs] at hlh
      have ws:Word s:=by rw [hs];exact lo64_word _
      have hr1:IntKind.u64.wrap (nth xs k+nth ys k)=lo64 (nth xs k+nth ys k):=wrap_lo _
      have hr2:IntKind.u64.wrap (lo64 (nth xs k+nth ys k)+cc)=s:=by
        rw [wrap_lo,hs];unfold lo64;omega
      by_cases hcs:s<nth xs k
      · have hnew:Hid ((zs ++ [s]).length=k+1∧Words (zs ++ [s])∧val (zs ++ [s])+wpow (k+1)*1=val (xs.take (k+1))+val (ys.take (k+1))):=⟨by simp [hr.out.1],hr.out.2.1.append (Words.nil.cons ws),add3_next hr.out.1 hr.out.2.2 (by rw [if_pos hcs] at hcar;omega)⟩
        clear hs hlh hcar ws wxk wyk hr hyp ho hbel
        generalize nth xs k=x at *
        generalize nth ys k=y at *
        go_wp2_with fail
        refine HWx.out.mono ?_
        rintro e w' ⟨rfl,rfl⟩
        go_wp2_with fail
        refine HWy.out.mono ?_
        rintro e w' ⟨rfl,rfl⟩
        go_wp2_with (at_builtin;refine wpList_append_word w.heap.size rfl (.tmp 47) (.tmp 49) 23 rfl Tryz.underlying23 _ zs s rfl rfl HO.out HB.out HB.out.size hlz ?_;intro v1 w1 ho1 hb1)
        have HO1:=Lib.hid ho1;have HB1:=Lib.hid hb1
        clear ho1 hb1
        go_wp2
        go_roundw
        case rel=>exact ⟨k+1,zs ++ [s],1,by omega,by go_num,rfl,by omega,HO1.out,HB1.out,hnew⟩
        case measure=>simp [intOf];omega
      · by_cases hce:s=nth xs k
        · rcases hcc with rfl | rfl
          · have hnew:Hid ((zs ++ [s]).length=k+1∧Words (zs ++ [s])∧val (zs ++ [s])+wpow (k+1)*0=val (xs.take (k+1))+val (ys.take (k+1))):=⟨by simp [hr.out.1],hr.out.2.1.append (Words.nil.cons ws),add3_next hr.out.1 hr.out.2.2 (by rw [if_neg hcs,if_neg (by omega)] at hcar;omega)⟩
            clear hs hlh hcar ws wxk wyk hr hyp ho hbel
            generalize nth xs k=x at *
            generalize nth ys k=y at *
            have hr3:=hr2;rw [Int.add_zero] at hr3
            have hb:(s == x)=true:=by simpa using hce
            have HE:=Lib.hid hce;clear hce
            go_wp2_with fail
            refine HWx.out.mono ?_
            rintro e w' ⟨rfl,rfl⟩
            go_wp2_with fail
            refine HWy.out.mono ?_
            rintro e w' ⟨rfl,rfl⟩
            go_wp2_with (at_builtin;refine wpList_append_word w.heap.size rfl (.tmp 47) (.tmp 49) 23 rfl Tryz.underlying23 _ zs s rfl rfl HO.out HB.out HB.out.size hlz ?_;intro v1 w1 ho1 hb1)
            have HO1:=Lib.hid ho1;have HB1:=Lib.hid hb1
            clear ho1 hb1
            go_wp2
            go_roundw
            case rel=>exact ⟨k+1,zs ++ [s],0,by omega,by go_num,rfl,by omega,HO1.out,HB1.out,hnew⟩
            case measure=>simp [intOf];omega
          · have hy1:0<nth ys k:=hyp ⟨hce,rfl⟩ hcs
            have hnew:Hid ((zs ++ [s]).length=k+1∧Words (zs ++ [s])∧val (zs ++ [s])+wpow (k+1)*1=val (xs.take (k+1))+val (ys.take (k+1))):=⟨by simp [hr.out.1],hr.out.2.1.append (Words.nil.cons ws),add3_next hr.out.1 hr.out.2.2 (by rw [if_neg hcs,if_pos ⟨hce,rfl⟩] at hcar;omega)⟩
            clear hs hlh hcar ws wxk wyk hr hyp ho hbel
            generalize nth xs k=x at *
            generalize nth ys k=y at *
            have hb:(s == x)=true:=by simpa using hce
            have HE:=Lib.hid hce;clear hce
            go_wp2_with fail
            refine HWx.out.mono ?_
            rintro e w' ⟨rfl,rfl⟩
            go_wp2_with fail
            refine HWy.out.mono ?_
            rintro e w' ⟨rfl,rfl⟩
            go_wp2_with (at_builtin;refine wpList_append_word w.heap.size rfl (.tmp 47) (.tmp 49) 23 rfl Tryz.underlying23 _ zs s rfl rfl HO.out HB.out HB.out.size hlz ?_;intro v1 w1 ho1 hb1)
            have HO1:=Lib.hid ho1;have HB1:=Lib.hid hb1
            clear ho1 hb1
            go_wp2
            go_roundw
            case rel=>exact ⟨k+1,zs ++ [s],1,by omega,by go_num,rfl,by omega,HO1.out,HB1.out,hnew⟩
            case measure=>simp [intOf];omega
        · have hnew:Hid ((zs ++ [s]).length=k+1∧Words (zs ++ [s])∧val (zs ++ [s])+wpow (k+1)*0=val (xs.take (k+1))+val (ys.take (k+1))):=⟨by simp [hr.out.1],hr.out.2.1.append (Words.nil.cons ws),add3_next hr.out.1 hr.out.2.2 (by rw [if_neg hcs,if_neg (fun h=>hce h.1)] at hcar;omega)⟩
          clear hs hlh hcar ws wxk wyk hr hyp ho hbel
          generalize nth xs k=x at *
          generalize nth ys k=y at *
          have hb:(s == x)=false:=by simpa using hce
          go_wp2_with fail
          refine HWx.out.mono ?_
          rintro e w' ⟨rfl,rfl⟩
          go_wp2_with fail
          refine HWy.out.mono ?_
          rintro e w' ⟨rfl,rfl⟩
          go_wp2_with (at_builtin;refine wpList_append_word w.heap.size rfl (.tmp 47) (.tmp 49) 23 rfl Tryz.underlying23 _ zs s rfl rfl HO.out HB.out HB.out.size hlz ?_;intro v1 w1 ho1 hb1)
          have HO1:=Lib.hid ho1;have HB1:=Lib.hid hb1
          clear ho1 hb1
          go_wp2
          go_roundw
          case rel=>exact ⟨k+1,zs ++ [s],0,by omega,by go_num,rfl,by omega,HO1.out,HB1.out,hnew⟩
          case measure=>simp [intOf];omega
    · have hdec:=hmax0 k hlt
      obtain rfl:L=k:=by omega
      have hcw:Word cc:=by rcases hcc with rfl | rfl<;>exact ⟨by omega,by omega⟩
      have hval:Hid (val (zs ++ [cc])=val xs+val ys):=by
        obtain ⟨r1,r2,r3⟩:=hr.out
        show _=_
        rw [val_take_all _ _ (by have:=e1.out;omega),val_take_all _ _ (by have:=e2.out;omega)] at r3
        rw [val_append,r1];simp only [val,Int.mul_zero,Int.add_zero];omega
      have hwz:Hid (Words (zs ++ [cc])):=hr.out.2.1.append (Words.nil.cons hcw)
      have hlz2:Hid ((zs ++ [cc]).length≤17592186044415):=by show _≤_;simp;omega
      clear hr ho hbel hcc hcw
      go_wp2_with (at_builtin;refine wpList_append_word w.heap.size rfl (.tmp 51) (.tmp 53) 23 rfl Tryz.underlying23 _ zs cc rfl rfl HO.out HB.out HB.out.size hlz ?_;intro v1 w1 ho1 hb1)
      have HO1:=Lib.hid ho1;have HB1:=Lib.hid hb1
      clear ho1 hb1
      go_wp2_with fail
      refine (norm_calls (HO1.out.nat hlz2.out hwz.out)).mono ?_
      rintro e w2 ⟨v2,rfl,hn2,hb2⟩
      rw [hval.out] at hn2
      have HN2:=Lib.hid hn2;have HB2:=Lib.hid hb2
      clear hn2 hb2
      go_wp2
      go_ret
      exact ⟨_,rfl,HN2.out.mono HB1.out.size,below_then HB1.out HB2.out⟩
set_option maxHeartbeats 3200000 in
set_option maxRecDepth 100000 in
theorem sub3_calls{B B':Nat}{w:World}{v v':Value}{xs ys:List Int}(h:NatAt B w v xs)(h':NatAt B' w v' ys)(hx:xs.length≤17592186044414)(hy:ys.length≤17592186044414)(hle:val ys≤val xs) :
    Calls Tryz.prog 107 #[v,v'] w (RNat w (ws (val xs-val ys))):=by
  obtain ⟨A1,L1,c1,rfl,e1,k1,q1⟩:=h.open
  obtain ⟨A2,L2,c2,rfl,e2,k2,q2⟩:=h'.open
  have b1:L1≤17592186044414:=by have:=e1.out;omega
  have b2:L2≤17592186044414:=by have:=e2.out;omega
  have HX:=Lib.hid h;have HY:=Lib.hid h'
  have wx:Hid (Words xs):=h.words
  have wy:Hid (Words ys):=h'.words
  have HLE:=Lib.hid hle
  clear h h' hx hy hle
  obtain ⟨L,hL⟩:∃ L,Hid (L=max L1 L2):=⟨_,rfl⟩
  have l1:L1≤L:=by have:=hL.out;omega
  have l2:L2≤L:=by have:=hL.out;omega
  have l3:L≤17592186044414:=by have:=hL.out;omega
  have hmax:(max (L1:Int) (L2:Int))=(L:Int):=by have:=hL.out;omega
  have hmax1:∀ k:Nat,k<L→decide ((k:Int)<max (L1:Int) (L2:Int))=true:=fun k hk=>by simp;have:=hL.out;omega
  have hmax0:∀ k:Nat,¬ k<L→decide ((k:Int)<max (L1:Int) (L2:Int))=false:=fun k hk=>by simp;have:=hL.out;omega
  go_enter Tryz.func107,Tryz.ntmps107
  go_wp2
  go_loopw [5,6,7] (fun o c i wr=>∃ (k:Nat) (zs:List Int) (cc:Int),k≤L∧i = .int .i64 k∧c = .int .u64 cc∧(cc=0∨cc=1)∧OwnL wr w.heap.size o zs∧Below w.heap.size w wr∧Hid (zs.length=k∧Words zs∧val zs-wpow k*cc=val (xs.take k)-val (ys.take k))) (fun _ _ i _=>L-(intOf i).toNat)
  case atStart=>exact ⟨0,[],0,by omega,rfl,rfl,by omega,OwnL.nil _ _,Below.refl _ _,rfl,Words.nil,by simp [val]⟩
  case round =>
    obtain ⟨k,zs,cc,hk,rfl,rfl,hcc,ho,hbel,hr⟩:=hrel
    have HO:=Lib.hid ho;have HB:=Lib.hid hbel
    have hlz:zs.length+1≤17592186044415:=by have:=hr.out.1;omega
    by_cases hlt:k<L
    · have hdec:=hmax1 k hlt
      have HWx:Hid (Calls Tryz.prog 116 #[.slice A1 L1 c1,.int .i64 (k:Int)] wr fun e w'=>e = .returned (.int .u64 (nth xs k))∧wr=w'):=word_calls (HX.out.below hbel) (k:Int) k rfl
      have HWy:Hid (Calls Tryz.prog 116 #[.slice A2 L2 c2,.int .i64 (k:Int)] wr fun e w'=>e = .returned (.int .u64 (nth ys k))∧wr=w'):=word_calls (HY.out.below hbel) (k:Int) k rfl
      have wxk:=wx.out.nth k
      have wyk:=wy.out.nth k
      obtain ⟨s,hs⟩:∃ s,s=lo64 (nth xs k-nth ys k-cc):=⟨_,rfl⟩
      have hcar:=sub3_borrow wxk wyk hcc
      have hlh:=lo_hi (nth xs k-nth ys k-cc)
      rw [←hs] at hlh
      have ws:Word s:=by rw [hs];exact lo64_word _
      have hr1:IntKind.u64.wrap (nth xs k-nth ys k)=lo64 (nth xs k-nth ys k):=wrap_lo _
      have hr2:IntKind.u64.wrap (lo64 (nth xs k-nth ys k)-cc)=s:=by
        rw [wrap_lo,hs];unfold lo64;omega
      by_cases hcs:nth xs k<nth ys k
      · have hnew:Hid ((zs ++ [s]).length=k+1∧Words (zs ++ [s])∧val (zs ++ [s])-wpow (k+1)*1=val (xs.take (k+1))-val (ys.take (k+1))):=⟨by simp [hr.out.1],hr.out.2.1.append (Words.nil.cons ws),sub3_next hr.out.1 hr.out.2.2 (by rw [if_pos hcs] at hcar;omega)⟩
        clear hs hlh hcar ws wxk wyk hr ho hbel
        generalize nth xs k=x at *
        generalize nth ys k=y at *
        go_wp2_with fail
        refine HWx.out.mono ?_
        rintro e w' ⟨rfl,rfl⟩
        go_wp2_with fail
        refine HWy.out.mono ?_
        rintro e w' ⟨rfl,rfl⟩
        go_wp2_with (at_builtin;refine wpList_append_word w.heap.size rfl (.tmp 43) (.tmp 45) 23 rfl Tryz.underlying23 _ zs s rfl rfl HO.out HB.out HB.out.size hlz ?_;intro v1 w1 ho1 hb1)
        have HO1:=Lib.hid ho1;have HB1:=Lib.hid hb1
        clear ho1 hb1
        go_wp2
        go_roundw
        case rel=>exact ⟨k+1,zs ++ [s],1,by omega,by go_num,rfl,by omega,HO1.out,HB1.out,hnew⟩
        case measure=>simp [intOf];omega
      · by_cases hce:nth xs k=nth ys k
        · rcases hcc with rfl | rfl
          · have hnew:Hid ((zs ++ [s]).length=k+1∧Words (zs ++ [s])∧val (zs ++ [s])-wpow (k+1)*0=val (xs.take (k+1))-val (ys.take (k+1))):=⟨by simp [hr.out.1],hr.out.2.1.append (Words.nil.cons ws),sub3_next hr.out.1 hr.out.2.2 (by rw [if_neg hcs,if_neg (by omega)] at hcar;omega)⟩
            clear hs hlh hcar ws wxk wyk hr ho hbel
            generalize nth xs k=x at *
            generalize nth ys k=y at *
            have hr3:=hr2;rw [Int.sub_zero] at hr3
            have hb:(x == y)=true:=by simpa using hce
            have HE:=Lib.hid hce;clear hce
            go_wp2_with fail
            refine HWx.out.mono ?_
            rintro e w' ⟨rfl,rfl⟩
            go_wp2_with fail
            refine HWy.out.mono ?_
            rintro e w' ⟨rfl,rfl⟩
            go_wp2_with (at_builtin;refine wpList_append_word w.heap.size rfl (.tmp 43) (.tmp 45) 23 rfl Tryz.underlying23 _ zs s rfl rfl HO.out HB.out HB.out.size hlz ?_;intro v1 w1 ho1 hb1)
            have HO1:=Lib.hid ho1;have HB1:=Lib.hid hb1
            clear ho1 hb1
            go_wp2
            go_roundw
            case rel=>exact ⟨k+1,zs ++ [s],0,by omega,by go_num,rfl,by omega,HO1.out,HB1.out,hnew⟩
            case measure=>simp [intOf];omega
          · have hnew:Hid ((zs ++ [s]).length=k+1∧Words (zs ++ [s])∧val (zs ++ [s])-wpow (k+1)*1=val (xs.take (k+1))-val (ys.take (k+1))):=⟨by simp [hr.out.1],hr.out.2.1.append (Words.nil.cons ws),sub3_next hr.out.1 hr.out.2.2 (by rw [if_neg hcs,if_pos ⟨hce,rfl⟩] at hcar;omega)⟩
            clear hs hlh hcar ws wxk wyk hr ho hbel
            generalize nth xs k=x at *
            generalize nth ys k=y at *
            have hb:(x == y)=true:=by simpa using hce
            have HE:=Lib.hid hce;clear hce
            go_wp2_with fail
            refine HWx.out.mono ?_
            rintro e w' ⟨rfl,rfl⟩
            go_wp2_with fail
            refine HWy.out.mono ?_
            rintro e w' ⟨rfl,rfl⟩
            go_wp2_with (at_builtin;refine wpList_append_word w.heap.size rfl (.tmp 43) (.tmp 45) 23 rfl Tryz.underlying23 _ zs s rfl rfl HO.out HB.out HB.out.size hlz ?_;intro v1 w1 ho1 hb1)
            have HO1:=Lib.hid ho1;have HB1:=Lib.hid hb1
            clear ho1 hb1
            go_wp2
            go_roundw
            case rel=>exact ⟨k+1,zs ++ [s],1,by omega,by go_num,rfl,by omega,HO1.out,HB1.out,hnew⟩
            case measure=>simp [intOf];omega
        · have hnew:Hid ((zs ++ [s]).length=k+1∧Words (zs ++ [s])∧val (zs ++ [s])-wpow (k+1)*0=val (xs.take (k+1))-val (ys.take (k+1))):=⟨by simp [hr.out.1],hr.out.2.1.append (Words.nil.cons ws),sub3_next hr.out.1 hr.out.2.2 (by rw [if_neg hcs,if_neg (fun h=>hce h.1)] at hcar;omega)⟩
          clear hs hlh hcar ws wxk wyk hr ho hbel
          generalize nth xs k=x at *
          generalize nth ys k=y at *
          have hb:(x == y)=false:=by simpa using hce
          go_wp2_with fail
          refine HWx.out.mono ?_
          rintro e w' ⟨rfl,rfl⟩
          go_wp2_with fail
          refine HWy.out.mono ?_
          rintro e w' ⟨rfl,rfl⟩
          go_wp2_with (at_builtin;refine wpList_append_word w.heap.size rfl (.tmp 43) (.tmp 45) 23 rfl Tryz.underlying23 _ zs s rfl rfl HO.out HB.out HB.out.size hlz ?_;intro v1 w1 ho1 hb1)
          have HO1:=Lib.hid ho1;have HB1:=Lib.hid hb1
          clear ho1 hb1
          go_wp2
          go_roundw
          case rel=>exact ⟨k+1,zs ++ [s],0,by omega,by go_num,rfl,by omega,HO1.out,HB1.out,hnew⟩
          case measure=>simp [intOf];omega
    · have hdec:=hmax0 k hlt
      obtain rfl:L=k:=by omega
      have hval:Hid (val zs=val xs-val ys):=by
        obtain ⟨r1,r2,r3⟩:=hr.out
        show _=_
        rw [val_take_all _ _ (by have:=e1.out;omega),val_take_all _ _ (by have:=e2.out;omega)] at r3
        have z1:=val_lt r2
        rw [r1] at z1
        have:=HLE.out
        rcases hcc with rfl | rfl<;>omega
      have hwz:Hid (Words zs):=hr.out.2.1
      clear hr ho hbel hcc
      go_wp2_with fail
      refine (norm_calls (HO.out.nat (by omega) hwz.out)).mono ?_
      rintro e w2 ⟨v2,rfl,hn2,hb2⟩
      rw [hval.out] at hn2
      have HN2:=Lib.hid hn2;have HB2:=Lib.hid hb2
      clear hn2 hb2
      go_wp2
      go_ret
      exact ⟨_,rfl,HN2.out.mono HB.out.size,below_then HB.out HB2.out⟩
def bl_156_ren:Go.Shelf.Ren:=⟨fun | 156=>84 | 165=>130 | 166=>131 | 169=>132 | 240=>153 | 241=>154 | 276=>164 | 277=>165 | n=>n,fun | 0=>0 | 3=>3 | 4=>4 | 5=>5 | 9=>9 | 20=>20 | 31=>99 | 37=>142 | 70=>141 | 72=>144 | 75=>147 | 76=>148 | 80=>150 | 127=>166 | 164=>173 | n=>n,fun | n=>n⟩
theorem bl_156:Go.Proofs.Lays.n156 Tryz.prog bl_156_ren:={
  mixed:=by kernel_rfl
  f156:=Tryz.func84.trans (congrArg some (by kernel_rfl))
  f165:=Tryz.func130.trans (congrArg some (by kernel_rfl))
  f166:=Tryz.func131.trans (congrArg some (by kernel_rfl))
  f169:=Tryz.func132.trans (congrArg some (by kernel_rfl))
  f240:=Tryz.func153.trans (congrArg some (by kernel_rfl))
  f241:=Tryz.func154.trans (congrArg some (by kernel_rfl))
  f276:=Tryz.func164.trans (congrArg some (by kernel_rfl))
  f277:=Tryz.func165.trans (congrArg some (by kernel_rfl))
  t0:=Tryz.underlying0
  a0:=Tryz.isAgg0
  z0:=Tryz.sizeOf0
  v0:=Tryz.zeroValue0
  t3:=Tryz.underlying3
  a3:=Tryz.isAgg3
  z3:=Tryz.sizeOf3
  v3:=Tryz.zeroValue3
  t4:=Tryz.underlying4
  a4:=Tryz.isAgg4
  z4:=Tryz.sizeOf4
  v4:=Tryz.zeroValue4
  t9:=Tryz.underlying9
  a9:=Tryz.isAgg9
  z9:=Tryz.sizeOf9
  v9:=Tryz.zeroValue9
  t20:=Tryz.underlying20
  a20:=Tryz.isAgg20
  z20:=Tryz.sizeOf20
  v20:=Tryz.zeroValue20
  t31:=Tryz.underlying99
  a31:=Tryz.isAgg99
  z31:=Tryz.sizeOf99
  v31:=Tryz.zeroValue99
  t37:=Tryz.underlying142
  a37:=Tryz.isAgg142
  z37:=Tryz.sizeOf142
  v37:=Tryz.zeroValue142
  t70:=Tryz.underlying141
  a70:=Tryz.isAgg141
  z70:=Tryz.sizeOf141
  v70:=Tryz.zeroValue141
  t72:=Tryz.underlying144
  a72:=Tryz.isAgg144
  z72:=Tryz.sizeOf144
  v72:=Tryz.zeroValue144
  t75:=Tryz.underlying147
  a75:=Tryz.isAgg147
  z75:=Tryz.sizeOf147
  v75:=Tryz.zeroValue147
  t76:=Tryz.underlying148
  a76:=Tryz.isAgg148
  z76:=Tryz.sizeOf148
  v76:=Tryz.zeroValue148
  t127:=Tryz.underlying166
  a127:=Tryz.isAgg166
  z127:=Tryz.sizeOf166
  v127:=Tryz.zeroValue166
  t164:=Tryz.underlying173
  a164:=Tryz.isAgg173
  z164:=Tryz.sizeOf173
  v164:=Tryz.zeroValue173
}
theorem bl_156X:Go.Proofs.Builder.Extra Tryz.prog bl_156_ren where
  sizeBuilder:=by kernel_rfl
  liesBuilder:=by kernel_rfl
  t5:=Tryz.underlying5
  a5:=Tryz.isAgg5
  z5:=Tryz.sizeOf5
  v5:=Tryz.zeroValue5
  infoByte:=by kernel_rfl
  cellsByte:=by kernel_rfl
  sizeByte:=by kernel_rfl
  neB5:=by decide
theorem join_calls(bk o c:Nat)(xs:List ByteArray)(sep:ByteArray)(w:World)
    (hcells:∀ (j:Nat) x,xs[j]?=some x→w.cell? ⟨bk,o+j,none⟩=some (.string x))
    (hbk:bk<w.heap.size) (hN:xs.length≤140737488355328) (hcap:xs.length≤c)
    (hlen:(Lib.join (xs.map (·.data.toList)) sep.data.toList).length≤140737488355328) :
    Calls Tryz.prog 84 #[.slice (some ⟨bk,o,none⟩) xs.length c,.string sep] w fun e w'=>e = .returned (.string ⟨(Lib.join (xs.map (·.data.toList)) sep.data.toList).toArray⟩)∧Below w.heap.size w w' :=
  Any.strings_Join bl_156 bl_156X bk o c xs sep w hcells hbk hN hcap hlen
theorem info_str:(Tryz.prog.info? 9).map (fun i=>(i.zero,i.size,i.bytes))=some (some (.string ⟨#[]⟩),1,16):=by kernel_rfl
def OwnT(w:World)(B:Nat)(v:Value)(zs:List ByteArray):Prop:=w.ownsRow B 9 1 v zs.length (zs.map Value.string)
theorem OwnT.nil(w:World)(B:Nat):OwnT w B (.slice none 0 0) []:=World.ownsRow_nil _ _ _ _
theorem OwnT.open{w:World}{B:Nat}{v:Value}{zs:List ByteArray}(h:OwnT w B v zs)(hz:zs≠[]) :
    ∃ g c,v = .slice (some ⟨g,0,none⟩) zs.length c∧g<w.heap.size∧zs.length≤c∧∀ (j:Nat) x,zs[j]?=some x→w.cell? ⟨g,0+j,none⟩=some (.string x):=by
  rcases h.2 with ⟨e,e'⟩|⟨g,cap,cur,rfl,hb,hh,h1,h2,h3,h4⟩
  · exact absurd (List.eq_nil_of_length_eq_zero e') hz
  · refine ⟨g,cap,rfl,(Array.getElem?_eq_some_iff.1 hh).1,h1,fun j x hj=>?_⟩
    rw [Nat.zero_add,cell_of_row w g j _ _ _ hh]
    have:(cur.toList.take (zs.length*1))[j]?=some (.string x):=by rw [h4];simp [hj]
    have hl:=(List.getElem?_eq_some_iff.1 hj).1
    rw [List.getElem?_take,if_pos (by omega)] at this
    simpa using this
theorem wpList_append_text{w0 W:World}(B:Nat){ops:Array Oper}{rest:List Oper}{o:Oper}{a:Act}{Q:Exit→Act→World→Prop}(hgd:o.guard=none)(s x:Operand)(t:TypeId)
    (ho:o.op = .call { callee:=.builtin .append,args:=#[s,x],argTypes:=#[t,t] }) (ht:Tryz.prog.underlying t=some (.slice 9))
    (v:Value) (zs:List ByteArray) (y:ByteArray) (hs:a.eval s=v) (hx:a.eval x = .slice (some ⟨W.heap.size,0,none⟩) 1 1)
    (HO:OwnT W B v zs) (HB:Below B w0 W) (hbase:B≤W.heap.size) (hl:zs.length+1≤1000)
    (h:∀ v1 w1,OwnT w1 B v1 (zs ++ [y])→Below B w0 w1→wpList Tryz.prog ops Q rest (a.put o.dst v1) w1) :
    wpList Tryz.prog ops Q (o :: rest) a (W.alloc (.cells #[.string y] 9)):=by
  obtain ⟨i0,hi,h0,h1,h2⟩:=info_parts info_str
  refine wpList_append_own (W.alloc (.cells #[.string y] 9)) hgd s x t ho B _ i0 (.string ⟨#[]⟩) 1 16 ht hi h0 h1 h2 rfl (by decide) v zs.length (zs.map Value.string) hs (HO.alloc _) ⟨W.heap.size,0,none⟩ 1 1 [.string y] hx rfl
    (cell_one_new _ _ _) (by simp [Value.oneCell']) (by simp only [maxLen];omega) (by omega) (by simp;omega) ?_
  intro v1 w1 hown hg _
  refine h v1 w1 ?_ ((HB.alloc hbase _).grown hg (by simp;omega) (fun k hk=>(World.ownsRow.lt HO k hk).1))
  unfold OwnT
  simpa using hown
def nmF:Nat→ByteArray
  | 0=>⟨#[105,110,118,97,108,105,100]⟩
  | 1=>⟨#[100,105,118,98,121,122,101,114,111]⟩
  | 2=>⟨#[111,118,101,114,102,108,111,119]⟩
  | 3=>⟨#[117,110,100,101,114,102,108,111,119]⟩
  | _=>⟨#[105,110,101,120,97,99,116]⟩
def pwF:Nat→Int
  | 0=>1 | 1=>2 | 2=>4 | 3=>8 | _=>16
def hasF(f:Int)(k:Nat):Bool:=bits BinOp.and IntKind.u8 f (pwF k) == pwF k
def zsF(f:Int):Nat→List ByteArray
  | 0=>[]
  | k+1=>if hasF f k=true then zsF f k ++ [nmF k] else zsF f k
theorem zs_t{f:Int}{k:Nat}(h:hasF f k=true):zsF f (k+1)=zsF f k ++ [nmF k]:=by rw [zsF,if_pos h]
theorem zs_f{f:Int}{k:Nat}(h:hasF f k=false):zsF f (k+1)=zsF f k:=by rw [zsF,if_neg (by rw [h];decide)]
theorem zsF_len(f:Int):∀ k,(zsF f k).length≤k
  | 0=>Nat.le_refl _
  | k+1=>by
    have:=zsF_len f k
    unfold zsF;split
    · simp;omega
    · omega
theorem right_calls{w:World}{f:Int}(h:bits BinOp.andNot IntKind.u8 f 31=0):Calls Tryz.prog 81 #[.int .u8 f] w (fun e w'=>e = .returned (.bool true)∧w=w'):=by
  go_enter Tryz.func81,Tryz.ntmps81
  go_wp2
  go_ret
  exact ⟨by simp [h],rfl⟩
theorem has_calls{w:World}{f g:Int}:Calls Tryz.prog 83 #[.int .u8 f,.int .u8 g] w (fun e w'=>e = .returned (.bool (bits BinOp.and IntKind.u8 f g == g))∧w=w'):=by
  go_enter Tryz.func83,Tryz.ntmps83
  go_wp2
  go_ret
  exact ⟨rfl,rfl⟩
theorem results_nm{fn:Func}{p:Tmp}{t:TypeId}(h:fn.results = #[.cell p t])(ha:∀ w,(isAgg t).run Tryz.prog w = .ok true w)(hz:∀ w,(Go.sizeOf t).run Tryz.prog w = .ok 5 w){tmps:Array Value}{w:World}{g:Nat}{a b c d e:Value}(hp:tmps.getD p undef = .pointer (some ⟨g,0,none⟩))
    (h1:w.cell? ⟨g,0,none⟩=some a) (h2:w.cell? ⟨g,1,none⟩=some b) (h3:w.cell? ⟨g,2,none⟩=some c) (h4:w.cell? ⟨g,3,none⟩=some d) (h5:w.cell? ⟨g,4,none⟩=some e) :
    (results fn tmps).run Tryz.prog w = .ok (.agg #[a,b,c,d,e]) w:=by
  have hp':tmps[p]?.getD undef = .pointer (some ⟨g,0,none⟩):=by simpa using hp
  simp [results,h,hp',asAddr,go_sem,loadVar,ha,hz,loadCellsFrom,h1,h2,h3,h4,h5]
theorem names_calls{w:World}:Calls Tryz.prog 82 #[] w (fun e w'=>e = .returned (.agg #[.string (nmF 0),.string (nmF 1),.string (nmF 2),.string (nmF 3),.string (nmF 4)])∧Below w.heap.size w w'):=by
  go_enter Tryz.func82,Tryz.ntmps82
  go_wp2
  refine bodyPost_ret (results_nm rfl Tryz.isAgg100 Tryz.sizeOf100 rfl (a:=.string (nmF 0)) (b:=.string (nmF 1)) (c:=.string (nmF 2)) (d:=.string (nmF 3)) (e:=.string (nmF 4)) ?_ ?_ ?_ ?_ ?_) rfl ⟨rfl,below_also _ _⟩
  all_goals (go_simp;rfl)
theorem idx0(a b c d e:Value)(w:World):(Instr.index 100 (.agg #[a,b,c,d,e]) (.int .i64 0)).run Tryz.prog w = .ok a w:=by kernel_rfl
theorem idx1(a b c d e:Value)(w:World):(Instr.index 100 (.agg #[a,b,c,d,e]) (.int .i64 1)).run Tryz.prog w = .ok b w:=by kernel_rfl
theorem idx2(a b c d e:Value)(w:World):(Instr.index 100 (.agg #[a,b,c,d,e]) (.int .i64 2)).run Tryz.prog w = .ok c w:=by kernel_rfl
theorem idx3(a b c d e:Value)(w:World):(Instr.index 100 (.agg #[a,b,c,d,e]) (.int .i64 3)).run Tryz.prog w = .ok d w:=by kernel_rfl
theorem idx4(a b c d e:Value)(w:World):(Instr.index 100 (.agg #[a,b,c,d,e]) (.int .i64 4)).run Tryz.prog w = .ok e w:=by kernel_rfl
set_option maxHeartbeats 3200000 in
set_option maxRecDepth 100000 in
theorem show_calls{w:World}{f:Int}(h0:f≠0)(hr:bits BinOp.andNot IntKind.u8 f 31=0)(hlen:(Lib.join ((zsF f 5).map (·.data.toList)) [32]).length≤140737488355328)(hne:zsF f 5≠[]) :
    Calls Tryz.prog 44 #[.int .u8 f] w (fun e w'=>e = .returned (.string ⟨(Lib.join ((zsF f 5).map (·.data.toList)) [32]).toArray⟩)∧Below w.heap.size w w'):=by
  have hf:(f == 0)=false:=by simpa using h0
  have HL:=Lib.hid hlen;have HN:=Lib.hid hne
  clear hlen hne h0
  go_enter Tryz.func44,Tryz.ntmps44
  go_wp2_with (first
    | (go_at_call 81;refine (right_calls hr).mono ?_;rintro e w' ⟨rfl,rfl⟩)
    | (go_at_call 82;refine names_calls.mono ?_;rintro e w' ⟨rfl,hb1⟩))
  go_loopw [3,12] (fun l i wr=>∃ (k:Nat),k≤5∧i = .int .i64 k∧OwnT wr w.heap.size l (zsF f k)∧Below w.heap.size w wr) (fun _ i _=>5-(intOf i).toNat)
  case atStart=>exact ⟨0,by omega,rfl,OwnT.nil _ _,by assumption⟩
  case round =>
    obtain ⟨k,hk,rfl,ho,hbel⟩:=hrel
    have HO:=Lib.hid ho;have HB:=Lib.hid hbel
    have hl:=zsF_len f k
    clear ho hbel
    by_cases hlt:k<5
    · have hdec:decide ((k:Int)<5)=true:=by simp;omega
      have cases:k=0∨k=1∨k=2∨k=3∨k=4:=by omega
      rcases cases with rfl | rfl | rfl | rfl | rfl
      · by_cases hb:(bits BinOp.and IntKind.u8 f 1 == 1)=true
        · have hz:zsF f 1=zsF f 0 ++ [nmF 0]:=zs_t (k:=0) hb
          go_wp2_with fail
          rw [idx0]
          go_wp2_with (first
            | (go_at_call 83;refine has_calls.mono ?_;rintro e w' ⟨rfl,rfl⟩)
            | (at_builtin;refine wpList_append_text w.heap.size rfl (.tmp 20) (.tmp 22) 99 rfl Tryz.underlying99 _ (zsF f 0) (nmF 0) rfl rfl HO.out HB.out HB.out.size (by omega) ?_;intro v1 w1 ho1 hb1))
          have HO1:=Lib.hid ho1;have HB1:=Lib.hid hb1
          clear ho1 hb1
          go_wp2
          go_roundw
          case rel=>exact ⟨1,by omega,rfl,by rw [hz];exact HO1.out,HB1.out⟩
          case measure=>simp [intOf]
        · have hb:=Bool.eq_false_iff.2 hb
          have hz:zsF f 1=zsF f 0:=zs_f (k:=0) hb
          go_wp2_with fail
          rw [idx0]
          go_wp2_with (go_at_call 83;refine has_calls.mono ?_;rintro e w' ⟨rfl,rfl⟩)
          go_roundw
          case rel=>exact ⟨1,by omega,rfl,by rw [hz];exact HO.out,HB.out⟩
          case measure=>simp [intOf]
      · by_cases hb:(bits BinOp.and IntKind.u8 f 2 == 2)=true
        · have hz:zsF f 2=zsF f 1 ++ [nmF 1]:=zs_t (k:=1) hb
          go_wp2_with fail
          rw [idx1]
          go_wp2_with (first
            | (go_at_call 83;refine has_calls.mono ?_;rintro e w' ⟨rfl,rfl⟩)
            | (at_builtin;refine wpList_append_text w.heap.size rfl (.tmp 20) (.tmp 22) 99 rfl Tryz.underlying99 _ (zsF f 1) (nmF 1) rfl rfl HO.out HB.out HB.out.size (by omega) ?_;intro v1 w1 ho1 hb1))
          have HO1:=Lib.hid ho1;have HB1:=Lib.hid hb1
          clear ho1 hb1
          go_wp2
          go_roundw
          case rel=>exact ⟨2,by omega,rfl,by rw [hz];exact HO1.out,HB1.out⟩
          case measure=>simp [intOf]
        · have hb:=Bool.eq_false_iff.2 hb
          have hz:zsF f 2=zsF f 1:=zs_f (k:=1) hb
          go_wp2_with fail
          rw [idx1]
          go_wp2_with (go_at_call 83;refine has_calls.mono ?_;rintro e w' ⟨rfl,rfl⟩)
          go_roundw
          case rel=>exact ⟨2,by omega,rfl,by rw [hz];exact HO.out,HB.out⟩
          case measure=>simp [intOf]
      · by_cases hb:(bits BinOp.and IntKind.u8 f 4 == 4)=true
        · have hz:zsF f 3=zsF f 2 ++ [nmF 2]:=zs_t (k:=2) hb
          go_wp2_with fail
          rw [idx2]
          go_wp2_with (first
            | (go_at_call 83;refine has_calls.mono ?_;rintro e w' ⟨rfl,rfl⟩)
            | (at_builtin;refine wpList_append_text w.heap.size rfl (.tmp 20) (.tmp 22) 99 rfl Tryz.underlying99 _ (zsF f 2) (nmF 2) rfl rfl HO.out HB.out HB.out.size (by omega) ?_;intro v1 w1 ho1 hb1))
          have HO1:=Lib.hid ho1;have HB1:=Lib.hid hb1
          clear ho1 hb1
          go_wp2
          go_roundw
          case rel=>exact ⟨3,by omega,rfl,by rw [hz];exact HO1.out,HB1.out⟩
          case measure=>simp [intOf]
        · have hb:=Bool.eq_false_iff.2 hb
          have hz:zsF f 3=zsF f 2:=zs_f (k:=2) hb
          go_wp2_with fail
          rw [idx2]
          go_wp2_with (go_at_call 83;refine has_calls.mono ?_;rintro e w' ⟨rfl,rfl⟩)
          go_roundw
          case rel=>exact ⟨3,by omega,rfl,by rw [hz];exact HO.out,HB.out⟩
          case measure=>simp [intOf]
      · by_cases hb:(bits BinOp.and IntKind.u8 f 8 == 8)=true
        · have hz:zsF f 4=zsF f 3 ++ [nmF 3]:=zs_t (k:=3) hb
          go_wp2_with fail
          rw [idx3]
          go_wp2_with (first
            | (go_at_call 83;refine has_calls.mono ?_;rintro e w' ⟨rfl,rfl⟩)
            | (at_builtin;refine wpList_append_text w.heap.size rfl (.tmp 20) (.tmp 22) 99 rfl Tryz.underlying99 _ (zsF f 3) (nmF 3) rfl rfl HO.out HB.out HB.out.size (by omega) ?_;intro v1 w1 ho1 hb1))
          have HO1:=Lib.hid ho1;have HB1:=Lib.hid hb1
          clear ho1 hb1
          go_wp2
          go_roundw
          case rel=>exact ⟨4,by omega,rfl,by rw [hz];exact HO1.out,HB1.out⟩
          case measure=>simp [intOf]
        · have hb:=Bool.eq_false_iff.2 hb
          have hz:zsF f 4=zsF f 3:=zs_f (k:=3) hb
          go_wp2_with fail
          rw [idx3]
          go_wp2_with (go_at_call 83;refine has_calls.mono ?_;rintro e w' ⟨rfl,rfl⟩)
          go_roundw
          case rel=>exact ⟨4,by omega,rfl,by rw [hz];exact HO.out,HB.out⟩
          case measure=>simp [intOf]
      · by_cases hb:(bits BinOp.and IntKind.u8 f 16 == 16)=true
        · have hz:zsF f 5=zsF f 4 ++ [nmF 4]:=zs_t (k:=4) hb
          go_wp2_with fail
          rw [idx4]
          go_wp2_with (first
            | (go_at_call 83;refine has_calls.mono ?_;rintro e w' ⟨rfl,rfl⟩)
            | (at_builtin;refine wpList_append_text w.heap.size rfl (.tmp 20) (.tmp 22) 99 rfl Tryz.underlying99 _ (zsF f 4) (nmF 4) rfl rfl HO.out HB.out HB.out.size (by omega) ?_;intro v1 w1 ho1 hb1))
          have HO1:=Lib.hid ho1;have HB1:=Lib.hid hb1
          clear ho1 hb1
          go_wp2
          go_roundw
          case rel=>exact ⟨5,by omega,rfl,by rw [hz];exact HO1.out,HB1.out⟩
          case measure=>simp [intOf]
        · have hb:=Bool.eq_false_iff.2 hb
          have hz:zsF f 5=zsF f 4:=zs_f (k:=4) hb
          go_wp2_with fail
          rw [idx4]
          go_wp2_with (go_at_call 83;refine has_calls.mono ?_;rintro e w' ⟨rfl,rfl⟩)
          go_roundw
          case rel=>exact ⟨5,by omega,rfl,by rw [hz];exact HO.out,HB.out⟩
          case measure=>simp [intOf]
    · obtain rfl:k=5:=by omega
      obtain ⟨g,c,rfl,hg,hc,hcells⟩:=HO.out.open HN.out
      go_wp2_with (go_at_call 84;refine (join_calls g 0 c (zsF f 5) ⟨#[32]⟩ wr hcells hg (by omega) hc HL.out).mono ?_;rintro e w' ⟨rfl,hb2⟩)
      go_ret
      exact ⟨rfl,HB.out.trans (hb2.mono HB.out.size)⟩
def showL(f:Int):List UInt8:=Lib.join ((zsF f 5).map (·.data.toList)) [32]
def twoL:List UInt8:=[105,110,118,97,108,105,100,32,105,110,101,120,97,99,116]
theorem show_facts:∀ k:Nat,k<18→0<k→bits BinOp.andNot IntKind.u8 (k:Int) 31=0∧(showL k).length≤1000∧(zsF k 5).length≠0∧(showL k=twoL↔k=17):=by decide +kernel
theorem bytes_ne{a b:List UInt8}(h:a≠b):((⟨a.toArray⟩:ByteArray).toList == (⟨b.toArray⟩:ByteArray).toList)=false:=by
  simpa using h
theorem bytes_eq{a b:List UInt8}(h:a=b):((⟨a.toArray⟩:ByteArray).toList == (⟨b.toArray⟩:ByteArray).toList)=true:=by
  rw [beq_iff_eq,h]
theorem show0_calls{w:World}:Calls Tryz.prog 44 #[.int .u8 0] w (fun e w'=>e = .returned (.string ⟨[110,111,110,101].toArray⟩)∧w=w'):=by
  have hr:bits BinOp.andNot IntKind.u8 0 31=0:=by decide
  go_enter Tryz.func44,Tryz.ntmps44
  go_wp2_with (go_at_call 81;refine (right_calls hr).mono ?_;rintro e w' ⟨rfl,rfl⟩)
  go_ret
  exact ⟨rfl,rfl⟩
theorem showk_calls(k:Nat)(hk:k≤17):∃ s:ByteArray,(s.toList == (⟨twoL.toArray⟩:ByteArray).toList)=decide (k=17) ∧
    ∀ w,Calls Tryz.prog 44 #[.int .u8 k] w (fun e w'=>e = .returned (.string s)∧Below w.heap.size w w'):=by
  by_cases h:k=0
  · subst h
    exact ⟨⟨[110,111,110,101].toArray⟩,by rw [bytes_ne (by decide)];rfl,fun w=>show0_calls.mono fun e w' ⟨h,h'⟩=>⟨h,h' ▸ Below.refl _ _⟩⟩
  · obtain ⟨h1,h2,h3,h4⟩:=show_facts k (by omega) (by omega)
    refine ⟨⟨(showL k).toArray⟩,?_,fun w=>show_calls (by omega) h1 (by unfold showL at h2;omega) (fun e=>h3 (by rw [e];rfl))⟩
    by_cases q:k=17
    · rw [bytes_eq (h4.2 q),decide_eq_true q]
    · rw [bytes_ne (fun e=>q (h4.1 e)),decide_eq_false q]
set_option maxHeartbeats 3200000 in
set_option maxRecDepth 100000 in
theorem parse_calls{w:World}:Calls Tryz.prog 17 #[.string ⟨twoL.toArray⟩] w (fun e w'=>e = .returned (.tuple #[.int .u8 17,.int .i64 0])∧Below w.heap.size w w'):=by
  obtain ⟨S,hS⟩:∃ S:ByteArray,S=⟨twoL.toArray⟩:=⟨_,rfl⟩
  rw [←hS]
  have HS:=Lib.hid hS
  clear hS
  go_enter Tryz.func17,Tryz.ntmps17
  go_wp2
  go_loopw [5] (fun i wr=>∃ (k:Nat),k≤17∧i = .int .u8 k∧Below w.heap.size w wr) (fun i _=>17-(intOf i).toNat)
  case atStart=>exact ⟨0,by omega,rfl,Below.refl _ _⟩
  case round =>
    obtain ⟨k,hk,rfl,hbel⟩:=hrel
    have HB:=Lib.hid hbel
    clear hbel
    have hdec:decide ((k:Int)<32)=true:=by simp;omega
    obtain ⟨s,hs,hcall⟩:=showk_calls k hk
    rw [←HS.out] at hs
    by_cases q:k=17
    · rw [decide_eq_true q] at hs
      have HQ:=Lib.hid q
      clear q
      go_wp2_with (go_at_call 44;refine (hcall _).mono ?_;clear hcall;rintro e w' ⟨rfl,hb⟩)
      go_ret2
      exact ⟨by rw [HQ.out];rfl,HB.out.trans (hb.mono HB.out.size)⟩
    · rw [decide_eq_false q] at hs
      have HQ:=Lib.hid q
      have hw:IntKind.wrap IntKind.u8 ((k:Int)+1)=((k+1:Nat):Int):=by show ((k:Int)+1) % 256=_;omega
      clear q
      go_wp2_with (go_at_call 44;refine (hcall _).mono ?_;clear hcall;rintro e w' ⟨rfl,hb⟩)
      go_roundw
      case rel=>exact ⟨k+1,by have:=HQ.out;omega,by go_num,HB.out.trans (hb.mono HB.out.size)⟩
      case measure=>have:=HQ.out;simp [intOf];omega
def oneV:Value→Bool
  | .agg _=>false
  | .tuple _=>false
  | _=>true
inductive At where
  | bool (b:Bool)
  | int (k:IntKind) (n:Int)
  | words (nw:Bool) (xs:List Int)
  | fn (f:FuncId) (caps:List At)
  | ref (cells:List At)
  | rows (nw:Bool) (sz n:Nat) (cells:List At)
  | ptr (b o:Nat)
  | lit (v:Value)
  deriving Inhabited
inductive Sv where
  | one (a:At)
  | agg (l:List At)
  deriving Inhabited
inductive Tv where
  | sv (s:Sv)
  | tup (l:List Sv)
  deriving Inhabited
def NatIn(D:Nat→Prop)(w:World)(v:Value)(xs:List Int):Prop :=
  ∃ A c,v = .slice A xs.length c∧xs.length≤c∧(c≤9223372036854775807∧xs.length≤17592186044415)∧Words xs∧(A=none→c=0) ∧
    (0<xs.length→∃ g o,A=some ⟨g,o,none⟩∧D g∧g<w.heap.size∧∀ j,j<xs.length→w.cell? ⟨g,o+j,none⟩=some (.int .u64 (nth xs j)))
theorem NatIn.nat{B:Nat}{w:World}{v:Value}{xs:List Int}(h:NatIn (fun g=>B≤g) w v xs):NatAt B w v xs:=h
theorem NatAt.isIn{B:Nat}{w:World}{v:Value}{xs:List Int}(h:NatAt B w v xs):NatIn (fun g=>B≤g) w v xs:=h
theorem NatIn.mono{D D':Nat→Prop}{w:World}{v:Value}{xs:List Int}(h:NatIn D w v xs)(hD:∀ g,g<w.heap.size→D g→D' g):NatIn D' w v xs:=by
  obtain ⟨A,c,e,h1,h2,h3,h5,h4⟩:=h
  exact ⟨A,c,e,h1,h2,h3,h5,fun hp=>by obtain ⟨g,o,e,hb,r⟩:=h4 hp;exact ⟨g,o,e,hD g r.1 hb,r⟩⟩
theorem NatIn.ext{D D':Nat→Prop}{w w':World}{v:Value}{xs:List Int}(h:NatIn D w v xs)(hs:w.heap.size≤w'.heap.size)(hD:∀ g,g<w.heap.size→D g→D' g∧w'.heap[g]?=w.heap[g]?):NatIn D' w' v xs:=by
  obtain ⟨A,c,e,h1,h2,h3,h5,h4⟩:=h
  refine ⟨A,c,e,h1,h2,h3,h5,fun hp=>?_⟩
  obtain ⟨g,o,e,hb,hg,hc⟩:=h4 hp
  refine ⟨g,o,e,(hD g hg hb).1,by omega,fun j hj=>?_⟩
  rw [←hc j hj]
  exact World.cell?_of_block (w:=w) (hD g hg hb).2
structure Base where
  n:Nat
  X:Nat→Prop
  L:Nat
inductive Rep (B:Base) (A:Nat→Option Nat) (w:World):Value→At→Prop where
  | bool (b:Bool):Rep B A w (.bool b) (.bool b)
  | int (k:IntKind) (n:Int):Rep B A w (.int k n) (.int k n)
  | words {v:Value} {nw:Bool} {xs:List Int} (h:NatIn (fun g=>((∀ b,A b≠some g)∧¬ B.X g)∧(nw=true→B.n≤g)) w v xs):Rep B A w v (.words nw xs)
  | fn {f:FuncId} {vs:List Value} {ys:List At} (hl:vs.length=ys.length) (h:∀ (i:Nat) v a,vs[i]?=some v→ys[i]?=some a→Rep B A w v a):Rep B A w (.func (.func f) #[] vs.toArray) (.fn f ys)
  | ref {g o:Nat} {cells:List At} (vs:Nat→Value) (hg:g<w.heap.size) (ha:∀ b,A b≠some g) (hc:∀ i,i<cells.length→w.cell? ⟨g,o+i,none⟩=some (vs i))
      (h:∀ (i:Nat) a,cells[i]?=some a→Rep B A w (vs i) a):Rep B A w (.pointer (some ⟨g,o,none⟩)) (.ref cells)
  | rows {nw:Bool} {sz n c g o:Nat} {cells:List At} (vs:Nat→Value) (hl:cells.length=n*sz) (hn:n≤c) (hm:c≤9223372036854775807) (hg:g<w.heap.size) (ha:∀ b,A b≠some g) (hX:¬ B.X g) (hb:nw=true→B.n≤g)
      (hc:∀ i,i<cells.length→w.cell? ⟨g,o+i,none⟩=some (vs i)) (h:∀ (i:Nat) a,cells[i]?=some a→Rep B A w (vs i) a):Rep B A w (.slice (some ⟨g,o,none⟩) n c) (.rows nw sz n cells)
  | ptr {b o g:Nat} (h:A b=some g):Rep B A w (.pointer (some ⟨g,o,none⟩)) (.ptr b o)
  | lit {v:Value} (h:oneV v=true):Rep B A w v (.lit v)
theorem Rep.oneCell{B:Base}{A:Nat→Option Nat}{w:World}{v:Value}{a:At}(h:Rep B A w v a):oneV v=true:=by
  cases h with
  | words h=>obtain ⟨A,c,rfl,_⟩:=h;rfl
  | lit h=>exact h
  | _=>rfl
theorem oneCell_cells{v:Value}(h:oneV v=true):v.cells = #[v]:=by cases v<;>simp_all [oneV,Value.cells]
structure Ext (A A':Nat→Option Nat) (w w':World):Prop where
  size:w.heap.size≤w'.heap.size
  blk:∀ g,g<w.heap.size→(∀ b,A b≠some g)→w'.heap[g]?=w.heap[g]?
  keep:∀ b g,A b=some g→A' b=some g
  new:∀ b g,A' b=some g→A b=some g∨w.heap.size≤g
theorem Ext.free{A A':Nat→Option Nat}{w w':World}(e:Ext A A' w w'){g:Nat}(hg:g<w.heap.size)(ha:∀ b,A b≠some g)(b:Nat):A' b≠some g:=fun h=>by
  rcases e.new b g h with h | h
  · exact ha b h
  · omega
theorem Rep.ext{B:Base}{A A':Nat→Option Nat}{w w':World}(e:Ext A A' w w'){v:Value}{a:At}(h:Rep B A w v a):Rep B A' w' v a:=by
  induction h with
  | bool b=>exact .bool b
  | int k n=>exact .int k n
  | words h=>exact .words (h.ext e.size (fun g hg hD=>⟨⟨⟨e.free hg hD.1.1,hD.1.2⟩,hD.2⟩,e.blk g hg hD.1.1⟩))
  | fn hl _ ih=>exact .fn hl ih
  | ref vs hg ha hc _ ih=>exact .ref vs (by have:=e.size;omega) (e.free hg ha) (fun i hi=>(World.cell?_of_block (w:=w) (e.blk _ hg ha)).trans (hc i hi)) ih
  | rows vs hl hn hm hg ha hX hb hc _ ih=>exact .rows vs hl hn hm (by have:=e.size;omega) (e.free hg ha) hX hb (fun i hi=>(World.cell?_of_block (w:=w) (e.blk _ hg ha)).trans (hc i hi)) ih
  | ptr h=>exact .ptr (e.keep _ _ h)
  | lit h=>exact .lit h
inductive Loc where
  | t (i:Nat)
  | c (b o:Nat)
  deriving DecidableEq
abbrev St:=Loc→Option Tv
structure Eff where
  pre:Option Prop
  dst:Tv
  box:Option (Nat×List At)
  st:List (Nat×Nat×At)
def Eff.ok(e:Eff):Prop:=match e.pre with | none=>True | some p=>p
inductive RM where
  | ret (e:Eff)
  | rd (l:Loc) (k:Option Tv→RM)
  | ite (b:Bool) (m n:RM)
def br(b:Bool)(p q:Prop):Prop:=match b with | true=>p | false=>q
theorem br_intro{b:Bool}{p q:Prop}(h:b=true→p)(k:b=false→q):br b p q:=by cases b<;>simp_all [br]
def RM.ev:RM→St→Eff
  | .ret e,_=>e
  | .rd l k,s=>(k (s l)).ev s
  | .ite b m n,s=>match b with | true=>m.ev s | false=>n.ev s
def RM.go:RM→St→List Loc→(Eff→List Loc→Prop)→Prop
  | .ret e,_,acc,K=>K e acc
  | .rd l k,s,acc,K=>(k (s l)).go s (l :: acc) K
  | .ite b m n,s,acc,K=>br b (m.go s acc K) (n.go s acc K)
def RM.reads:RM→St→List Loc
  | .ret _,_=>[]
  | .rd l k,s=>l :: (k (s l)).reads s
  | .ite b m n,s=>match b with | true=>m.reads s | false=>n.reads s
theorem RM.go_eq(m:RM)(s:St)(acc:List Loc)(K:Eff→List Loc→Prop):m.go s acc K=K (m.ev s) ((m.reads s).reverse ++ acc):=by
  induction m generalizing acc with
  | ret e=>rfl
  | rd l k ih=>simp only [RM.go,RM.ev,RM.reads,ih,List.reverse_cons,List.append_assoc,List.singleton_append]
  | ite b m n ihm ihn =>
    cases b with
    | true=>exact ihm acc
    | false=>exact ihn acc
theorem RM.local_{m:RM}{s s':St}(h:∀ l∈m.reads s,s' l=s l):m.ev s'=m.ev s:=by
  induction m with
  | ret e=>rfl
  | rd l k ih =>
    have h0:s' l=s l:=h l (by simp [RM.reads])
    rw [RM.ev,RM.ev,h0]
    exact ih (s l) (fun l' hl=>h l' (by simp [RM.reads,hl]))
  | ite b m n ihm ihn =>
    cases b with
    | true=>exact ihm h
    | false=>exact ihn h
inductive TyKind where
  | struct (fs:List (Nat×Nat×Bool))
  | array (n esz:Nat) (eagg:Bool)
  | slice (esz:Nat) (eagg:Bool) (u64:Bool)
  | int (k:IntKind)
  | bool
  | str
  | ptr
  | func
structure TyRow where
  id:TypeId
  size:Nat
  agg:Bool
  zero:List At
  kind:TyKind
def atomOf:Value→At
  | .bool b=>.bool b
  | .int k n=>.int k n
  | .slice none 0 0=>.words true []
  | .func (.func f) ⟨[]⟩ ⟨[]⟩=>.fn f []
  | v=>.lit v
def tyAgg(P:Program)(t:TypeId):Option (Nat×Bool) :=
  match P.info? t,P.underlying t with
  | some i,some d=>some (i.size,match d with | .struct _=>true | .array _ _=>true | _=>false)
  | _,_=>none
def isU64:Option TypeDesc→Bool
  | some (.int .u64)=>true
  | _=>false
def kFields(P:Program):List Field→Option (List (Nat×Nat×Bool))
  | []=>some []
  | f :: l=>match tyAgg P f.type,kFields P l with
    | some p,some r=>some ((f.offset,p.1,p.2) :: r)
    | _,_=>none
def zeroOk(P:Program)(t:TypeId):Bool:=match P.info? t with | some i=>i.zero.isSome | none=>false
def kindOf(P:Program):TypeDesc→Option TyKind
  | .struct fs=>match kFields P fs.toList with | some l=>some (.struct l) | none=>none
  | .array n e=>match tyAgg P e with | some p=>some (.array n p.1 p.2) | none=>none
  | .slice e=>match tyAgg P e,zeroOk P e with | some p,true=>some (.slice p.1 p.2 (isU64 (P.underlying e))) | _,_=>none
  | .int k=>some (.int k)
  | .bool=>some .bool
  | .string=>some .str
  | .pointer _=>some .ptr
  | .func _ _ _=>some .func
  | _=>none
def rowOf(P:Program)(t:TypeId):Option TyRow :=
  match P.info? t,P.underlying t,tyAgg P t with
  | some i,some d,some p =>
    match i.zero,kindOf P d with
    | some z,some k=>if z.cells.toList.all oneV then some ⟨t,p.1,p.2,z.cells.toList.map atomOf,k⟩ else none
    | _,_=>none
  | _,_,_=>none
abbrev Spec:=List Sv→Option Prop×Tv
def bad:RM:=.ret ⟨some False,.tup [],none,[]⟩
def valT(s:Tv):RM:=.ret ⟨none,s,none,[]⟩
def valS(s:Sv):RM:=.ret ⟨none,.sv s,none,[]⟩
def val1(a:At):RM:=.ret ⟨none,.sv (.one a),none,[]⟩
def val1P(p:Prop)(a:At):RM:=.ret ⟨some p,.sv (.one a),none,[]⟩
def noneT:Tv:=.tup []
def nthO{α:Type}:List α→Nat→Option α
  | [],_=>none
  | x :: _,0=>some x
  | _ :: l,n+1=>nthO l n
def tyAt:List TyRow→TypeId→Option TyRow
  | [],_=>none
  | r :: l,t=>match Nat.beq r.id t with | true=>some r | false=>tyAt l t
def spAt:List (FuncId×Spec)→FuncId→Option Spec
  | [],_=>none
  | (f,s) :: l,g=>match Nat.beq f g with | true=>some s | false=>spAt l g
def cstA:List Value→Option (List At)
  | []=>some []
  | v :: l=>match oneV v with | true=>(match cstA l with | some r=>some (atomOf v :: r) | none=>none) | false=>none
def cst:Value→Option Tv
  | .agg cs=>match cstA cs.toList with | some l=>some (.sv (.agg l)) | none=>none
  | .tuple ⟨[]⟩=>some (.tup [])
  | .tuple _=>none
  | v=>some (.sv (.one (atomOf v)))
def opd(x:Operand)(k:Tv→RM):RM :=
  match x with
  | .tmp t=>.rd (.t t) fun r=>match r with | some s=>k s | none=>bad
  | .const v=>match cst v with | some s=>k s | none=>bad
  | .func f=>k (.sv (.one (.fn f [])))
  | .global _=>bad
def opds:List Operand→(List Sv→RM)→RM
  | [],k=>k []
  | x :: l,k=>opd x fun v=>match v with | .sv s=>opds l fun r=>k (s :: r) | .tup _=>bad
def rdCells(b:Nat):Nat→Nat→(List At→RM)→RM
  | _,0,k=>k []
  | o,n+1,k=>.rd (.c b o) fun r=>match r with | some (.sv (.one x))=>rdCells b (o+1) n fun l=>k (x :: l) | _=>bad
def rdBox(b:Nat):Nat→Nat→(List At→RM)→RM
  | _,0,_=>bad
  | o,n+1,k=>.rd (.c b o) fun r=>match r with | some (.sv (.one x))=>rdBox b (o+1) n fun l=>k (x :: l) | some _=>bad | none=>k []
def flat0:At→Bool
  | .bool _=>true
  | .int _ _=>true
  | .words _ _=>true
  | .lit _=>true
  | .fn _ []=>true
  | _=>false
def strip0:At→At
  | .words _ xs=>.words false xs
  | a=>a
def allFlat:List At→Bool
  | []=>true
  | a :: l=>match flat0 a with | true=>allFlat l | false=>false
def stripL:List At→List At
  | []=>[]
  | a :: l=>strip0 a :: stripL l
def flatK(cs:List At)(k:List At→RM):RM:=match allFlat cs with | true=>k (stripL cs) | false=>bad
def outA1(a:At)(k:At→RM):RM :=
  match a with
  | .bool b=>k (.bool b)
  | .int q n=>k (.int q n)
  | .lit v=>k (.lit v)
  | .words _ xs=>k (.words false xs)
  | .ref cs=>flatK cs fun l=>k (.ref l)
  | .rows _ sz n cs=>flatK cs fun l=>k (.rows false sz n l)
  | .ptr b o=>rdBox b o 64 fun cs=>flatK cs fun l=>k (.ref l)
  | .fn f []=>k (.fn f [])
  | .fn _ _=>bad
def outL1:List At→(List At→RM)→RM
  | [],k=>k []
  | a :: l,k=>outA1 a fun x=>outL1 l fun r=>k (x :: r)
def outA(a:At)(k:At→RM):RM :=
  match a with
  | .fn f caps=>outL1 caps fun l=>k (.fn f l)
  | a=>outA1 a k
def outL:List At→(List At→RM)→RM
  | [],k=>k []
  | a :: l,k=>outA a fun x=>outL l fun r=>k (x :: r)
def outS(s:Sv)(k:Sv→RM):RM :=
  match s with
  | .one a=>outA a fun x=>k (.one x)
  | .agg l=>outL l fun r=>k (.agg r)
def outSs:List Sv→(List Sv→RM)→RM
  | [],k=>k []
  | s :: l,k=>outS s fun x=>outSs l fun r=>k (x :: r)
def Sv.cells:Sv→List At
  | .one a=>[a]
  | .agg l=>l
def isGlob:Operand→Option Nat
  | .global g=>some g
  | _=>none
def globA(_:Nat):Option (List At):=none
def isLen{α:Type}:List α→Nat→Bool
  | [],0=>true
  | _ :: l,n+1=>isLen l n
  | _,_=>false
def loadT(r:TyRow)(cs:List At):RM :=
  match r.agg with
  | true=>valS (.agg cs)
  | false=>match cs with | [x]=>val1 x | _=>bad
def inR(n:Int):Prop:=-9223372036854775808≤n∧n<9223372036854775808
def numV(k:IntKind)(n:Int):RM :=
  match k with
  | .i64=>val1P (inR n) (.int .i64 n)
  | k=>val1 (.int k (k.wrap n))
def bitsI(op:BinOp)(k:IntKind)(x y:Int):Int :=
  match op with
  | .and=>k.wrap (BitVec.ofInt k.bits x &&& BitVec.ofInt k.bits y).toNat
  | .or=>k.wrap (BitVec.ofInt k.bits x ||| BitVec.ofInt k.bits y).toNat
  | .xor=>k.wrap (BitVec.ofInt k.bits x ^^^ BitVec.ofInt k.bits y).toNat
  | _=>k.wrap (BitVec.ofInt k.bits x &&& ~~~ BitVec.ofInt k.bits y).toNat
def shlI(k:IntKind)(x y:Int):Int:=k.wrap (x*2^(min y.toNat k.bits))
def shrI(k:IntKind)(x y:Int):Int:=x.fdiv (2^(min y.toNat k.bits))
def ltI(a b:Int):Bool:=decide (a<b)
def leI(a b:Int):Bool:=decide (a≤b)
def eqI(a b:Int):Bool:=a == b
def neI(a b:Int):Bool:=a != b
def binI(op:BinOp)(k:IntKind)(a b:Int):RM :=
  match op with
  | .add=>numV k (a+b)
  | .sub=>numV k (a-b)
  | .mul=>numV k (a*b)
  | .quo=>match k with
    | .i64=>val1P (b≠0∧inR (a.tdiv b)) (.int .i64 (a.tdiv b))
    | k=>val1P (b≠0) (.int k (k.wrap (a.tdiv b)))
  | .rem=>val1P (b≠0) (.int k (a.tmod b))
  | .and=>val1 (.int k (bitsI .and k a b))
  | .or=>val1 (.int k (bitsI .or k a b))
  | .xor=>val1 (.int k (bitsI .xor k a b))
  | .andNot=>val1 (.int k (bitsI .andNot k a b))
  | .eql=>val1 (.bool (eqI a b))
  | .neq=>val1 (.bool (neI a b))
  | .lss=>val1 (.bool (ltI a b))
  | .leq=>val1 (.bool (leI a b))
  | .gtr=>val1 (.bool (ltI b a))
  | .geq=>val1 (.bool (leI b a))
  | _=>bad
def ikBeq:IntKind→IntKind→Bool
  | .i8,.i8 | .i16,.i16 | .i32,.i32 | .i64,.i64 | .u8,.u8 | .u16,.u16 | .u32,.u32 | .u64,.u64=>true
  | _,_=>false
def binB(T:List TyRow)(op:BinOp)(t:TypeId)(a b:Bool):RM :=
  match tyAt T t with
  | some ⟨_,_,_,_,.bool⟩=>match op with
    | .eql=>val1 (.bool (a == b))
    | .neq=>val1 (.bool (!(a == b)))
    | _=>bad
  | _=>bad
def dupT:List TyRow→Bool
  | a :: b :: _=>Nat.beq a.id b.id
  | _=>false
def binW(T:List TyRow)(op:BinOp)(k:IntKind)(a b:Int):RM :=
  match dupT T with
  | true=>match op with
    | .add=>val1 (.int k (k.wrap (a+b)))
    | op=>binI op k a b
  | false=>binI op k a b
def binAt(T:List TyRow)(op:BinOp)(t:TypeId)(x y:Tv):RM :=
  match x,y with
  | .sv (.one (.int k a)),.sv (.one (.int k' b))=>match op with
    | .shl=>val1P (0≤b) (.int k (shlI k a b))
    | .shr=>val1P (0≤b) (.int k (shrI k a b))
    | op=>match ikBeq k k' with | true=>binW T op k a b | false=>bad
  | .sv (.one (.bool a)),.sv (.one (.bool b))=>binB T op t a b
  | _,_=>bad
def unAt(op:UnOp)(x:Tv):RM :=
  match op,x with
  | .neg,.sv (.one (.int k n))=>numV k (0-n)
  | .not,.sv (.one (.bool b))=>val1 (.bool (!b))
  | _,_=>bad
def convAt(T:List TyRow)(dst:TypeId)(x:Tv):RM :=
  match tyAt T dst with
  | some ⟨_,_,_,_,.int k⟩=>match x with
    | .sv (.one (.int q n))=>match k,q with
      | .i64,.u64=>val1 (.int .i64 (IntKind.i64.wrap n))
      | .i64,_=>val1P (inR n) (.int .i64 n)
      | k,_=>val1 (.int k (k.wrap n))
    | _=>bad
  | _=>bad
def putSeg{α:Type}:List α→Nat→List α→List α
  | l,0,[]=>l
  | [],_,_=>[]
  | _ :: l,0,c :: cs=>c :: putSeg l 0 cs
  | x :: l,o+1,cs=>x :: putSeg l o cs
def fillAt(place:Nat→Option (Nat×Nat))(cells:List At):List Nat→List Sv→Option (List At)
  | [],[]=>some cells
  | i :: is,s :: ss=>match place i with
    | none=>none
    | some (off,size)=>match isLen s.cells size with
      | true=>match Nat.ble (off+size) cells.length with
        | true=>fillAt place (putSeg cells off s.cells) is ss
        | false=>none
      | false=>none
  | _,_=>none
def placeOf:TyKind→Nat→Option (Nat×Nat)
  | .struct fs,i=>match nthO fs i with | some (o,s,_)=>some (o,s) | none=>none
  | .array _ esz _,i=>some (i*esz,esz)
  | _,_=>none
def catAt(esz:Nat):Nat→List Nat→List Sv→Option (List At)
  | _,[],[]=>some []
  | k,i :: is,s :: ss=>match Nat.beq i k with
    | true=>match isLen s.cells esz with
      | true=>match catAt esz (k+1) is ss with
        | some r=>some (s.cells ++ r)
        | none=>none
      | false=>none
    | false=>none
  | _,_,_=>none
def wordsOf:List At→Option (List Int)
  | []=>some []
  | .int .u64 n :: l=>match wordsOf l with | some r=>some (n :: r) | none=>none
  | _ :: _=>none
def minI(a b:Int):Int:=if b<a then b else a
def maxI(a b:Int):Int:=if b > a then b else a
def lenAt(x:Sv):RM :=
  match x with
  | .one (.words _ l)=>val1 (.int .i64 (l.length:Nat))
  | .one (.rows _ _ n _)=>val1 (.int .i64 (n:Nat))
  | _=>bad
def builtinAt(T:List TyRow)(ts:List TypeId)(b:Builtin)(xs:List Sv):RM :=
  match b,xs with
  | .len,[x]=>match ts with
    | t :: _=>match tyAt T t with
      | some ⟨_,_,_,_,.slice _ _ _⟩=>lenAt x
      | _=>bad
    | []=>bad
  | .min,[.one (.int k a),.one (.int k' b)]=>match ikBeq k k' with | true=>val1 (.int k (minI a b)) | false=>bad
  | .max,[.one (.int k a),.one (.int k' b)]=>match ikBeq k k' with | true=>val1 (.int k (maxI a b)) | false=>bad
  | _,_=>bad
def storesAt(b:Nat):Nat→List At→List (Nat×Nat×At)
  | _,[]=>[]
  | o,x :: l=>(b,o,x) :: storesAt b (o+1) l
def flatR:At→Bool
  | .rows _ _ _ cs=>allFlat cs
  | a=>flat0 a
def allR:List At→Bool
  | []=>true
  | a :: l=>match flatR a with | true=>allR l | false=>false
def flatSv:Sv→Bool
  | .one a=>flatR a
  | .agg l=>allR l
def flatSvs:List Sv→Bool
  | []=>true
  | s :: l=>match flatSv s with | true=>flatSvs l | false=>false
def flatTv:Tv→Bool
  | .sv s=>flatSv s
  | .tup l=>flatSvs l
def toTv:List Sv→Tv
  | [s]=>.sv s
  | l=>.tup l
def outE1(b:Nat)(a:At)(k:At→RM):RM :=
  match a with
  | .ptr b' o=>match Nat.beq b' b with
    | true=>match Nat.beq o 0 with | true=>k (.ptr 0 0) | false=>bad
    | false=>rdBox b' o 64 fun cs=>flatK cs fun l=>k (.ref l)
  | .ref cs=>flatK cs fun l=>k (.ref l)
  | a=>match flat0 a with | true=>k (strip0 a) | false=>bad
def outEL1(b:Nat):List At→(List At→RM)→RM
  | [],k=>k []
  | a :: l,k=>outE1 b a fun x=>outEL1 b l fun r=>k (x :: r)
def outE(b:Nat)(a:At)(k:At→RM):RM :=
  match a with
  | .fn f caps=>outEL1 b caps fun l=>k (.fn f l)
  | a=>outE1 b a k
def outES(b:Nat)(s:Sv)(k:Sv→RM):RM :=
  match s with
  | .one a=>outE b a fun x=>k (.one x)
  | .agg l=>flatK l fun r=>k (.agg r)
def outESs(b:Nat):List Sv→(List Sv→RM)→RM
  | [],k=>k []
  | s :: l,k=>outES b s fun x=>outESs b l fun r=>k (x :: r)
def effBox:List Sv→Option Nat
  | []=>none
  | .one (.ptr b _) :: _=>some b
  | .one (.fn _ (.ptr b _ :: _)) :: _=>some b
  | _ :: l=>effBox l
def effK:Nat:=1000000
def effAt(sp:Spec)(args:List Sv):RM :=
  match effBox args with
  | none=>bad
  | some b=>rdBox b 0 64 fun cs=>flatK cs fun l=>outESs b args fun ss=>match sp (.agg l :: ss) with
    | (p,.tup (.agg new :: rs))=>match allFlat new with
      | true=>match isLen new l.length with
        | true=>match flatSvs rs with
          | true=>.ret ⟨p,toTv rs,none,storesAt b 0 new⟩
          | false=>bad
        | false=>bad
      | false=>bad
    | _=>bad
def callAt(S:List (FuncId×Spec))(f:FuncId)(args:List Sv):RM :=
  match spAt S (f+effK) with
  | some sp=>effAt sp args
  | none=>outSs args fun l=>match spAt S f with
    | some sp=>match Nat.blt f effK with
      | true=>match sp l with
        | (p,t)=>match flatTv t with
          | true=>.ret ⟨p,t,none,[]⟩
          | false=>bad
      | false=>bad
    | none=>bad
structure Env where
  T:List TyRow
  S:List (FuncId×Spec)
def addrAt(p:Tv)(off:Nat):RM :=
  match p with
  | .sv (.one (.ptr b o))=>val1 (.ptr b (o+off))
  | .sv (.one (.ref cs))=>val1 (.ref (cs.drop off))
  | _=>bad
def stepOp(E:Env)(id:Nat)(o:Oper):RM :=
  match o.op with
  | .move x=>opd x valT
  | .assign x=>opd x valT
  | .pick c a b=>opd c fun t=>match t with
    | .sv (.one (.bool true))=>opd a valT
    | .sv (.one (.bool false))=>opd b valT
    | _=>bad
  | .alloc e=>match tyAt E.T e with
    | some r=>.ret ⟨none,.sv (.one (.ptr id 0)),some (id,r.zero),[]⟩
    | none=>bad
  | .box _ x=>opd x fun t=>match t with
    | .sv s=>.ret ⟨none,.sv (.one (.ptr id 0)),some (id,s.cells),[]⟩
    | .tup _=>bad
  | .build t parts=>match tyAt E.T t with
    | some r=>opds (parts.toList.map (·.2)) fun ss=>match r.agg with
      | true=>match fillAt (placeOf r.kind) r.zero (parts.toList.map (·.1)) ss with
        | some l=>valS (.agg l)
        | none=>bad
      | false=>bad
    | none=>bad
  | .buildSlice t n parts=>match tyAt E.T t with
    | some ⟨_,_,_,_,.slice esz _ u64⟩=>opds (parts.toList.map (·.2)) fun ss=>match Nat.beq n parts.size with
      | true=>match Nat.blt 0 (n*esz),Nat.ble (n*esz) 16777216 with
        | true,true=>match catAt esz 0 (parts.toList.map (·.1)) ss with
          | some l=>match u64 with
            | true=>match wordsOf l,Nat.beq esz 1 with | some ws,true=>val1P (Words ws) (.words true ws) | _,_=>bad
            | false=>val1 (.rows true esz n l)
          | none=>bad
        | _,_=>bad
      | false=>bad
    | _=>bad
  | .load t a=>match tyAt E.T t with
    | some r=>opd a fun p=>match p with
      | .sv (.one (.ptr b o))=>rdCells b o r.size (loadT r)
      | .sv (.one (.ref cs))=>match Nat.ble r.size cs.length with
        | true=>loadT r (cs.take r.size)
        | false=>bad
      | _=>bad
    | none=>bad
  | .store t a x=>match tyAt E.T t with
    | some r=>opd a fun p=>opd x fun v=>match p,v with
      | .sv (.one (.ptr b o)),.sv s=>match isLen s.cells r.size with
        | true=>rdCells b o r.size fun _=>.ret ⟨none,noneT,none,storesAt b o s.cells⟩
        | false=>bad
      | _,_=>bad
    | none=>bad
  | .nilCheck x=>opd x fun p=>match p with
    | .sv (.one (.ptr b o))=>val1 (.ptr b o)
    | .sv (.one (.ref cs))=>val1 (.ref cs)
    | .sv (.one (.fn f cs))=>val1 (.fn f cs)
    | _=>bad
  | .binOp op t x y _=>opd x fun a=>opd y fun b=>binAt E.T op t a b
  | .unOp op _ x=>opd x (unAt op)
  | .convert src dst x=>match tyAt E.T src with
    | some _=>opd x (convAt E.T dst)
    | none=>bad
  | .fieldAddr t x f=>match tyAt E.T t with
    | some ⟨_,_,_,_,.struct fs⟩=>match nthO fs f with
      | some (off,_+1,_)=>opd x fun p=>addrAt p off
      | _=>bad
    | _=>bad
  | .field t x f=>match tyAt E.T t with
    | some ⟨_,_,_,_,.struct fs⟩=>match nthO fs f with
      | some (off,size,ag)=>opd x fun p=>match p with
        | .sv (.agg cs)=>match ag with
          | true=>valS (.agg ((cs.drop off).take size))
          | false=>match cs.drop off with | x :: _=>val1 x | []=>bad
        | _=>bad
      | none=>bad
    | _=>bad
  | .indexAddr t x ix=>match tyAt E.T t with
    | some ⟨_,_,_,_,.slice esz _ _⟩=>opd x fun p=>opd ix fun q=>match p,q with
      | .sv (.one (.words _ l)),.sv (.one (.int _ n))=>match Nat.beq esz 1 with
        | true=>val1P (0≤n∧n<(l.length:Nat)) (.ref [.int .u64 (nth l n.toNat)])
        | false=>bad
      | .sv (.one (.rows _ sz m cs)),.sv (.one (.int _ n))=>match Nat.beq esz sz with
        | true=>val1P (0≤n∧n<(m:Nat)) (.ref ((cs.drop (n.toNat*sz)).take sz))
        | false=>bad
      | _,_=>bad
    | some ⟨_,_,_,_,.array len esz _⟩=>match isGlob x with
     | some g=>match globA g with
      | some cs=>opd ix fun q=>match q with
        | .sv (.one (.int _ n))=>val1P (0≤n∧n<(len:Nat)) (.ref (cs.drop (n.toNat*esz)))
        | _=>bad
      | none=>bad
     | none=>opd x fun p=>opd ix fun q=>match p,q with
      | .sv (.one (.ptr b o)),.sv (.one (.int _ n))=>match Nat.beq len 2 with
        | true=>.ite (eqI n 0) (val1P (0≤n∧n<(len:Nat)) (.ptr b o)) (val1P (0≤n∧n<(len:Nat)) (.ptr b (o+esz)))
        | false=>val1P (0≤n∧n<(len:Nat)) (.ptr b (o+n.toNat*esz))
      | .sv (.one (.ref cs)),.sv (.one (.int _ n))=>val1P (0≤n∧n<(len:Nat)) (.ref (cs.drop (n.toNat*esz)))
      | _,_=>bad
    | _=>bad
  | .index t x ix=>match tyAt E.T t with
    | some ⟨_,_,_,_,.array len esz ag⟩=>opd x fun p=>opd ix fun q=>match p,q with
      | .sv (.agg cs),.sv (.one (.int _ n))=>match ag with
        | true=>.ret ⟨some (0≤n∧n<(len:Nat)),.sv (.agg ((cs.drop (n.toNat*esz)).take esz)),none,[]⟩
        | false=>match cs.drop (n.toNat*esz) with | x :: _=>val1P (0≤n∧n<(len:Nat)) x | []=>bad
      | _,_=>bad
    | _=>bad
  | .slice t x lo hi mx=>match tyAt E.T t with
    | some ⟨_,_,_,_,.slice esz _ _⟩=>match mx with
      | none=>opd x fun p=>match p,lo,hi with
        | .sv (.one (.rows nw sz m cs)),some l,none=>match Nat.beq esz sz with
          | true=>opd l fun q=>match q with
            | .sv (.one (.int _ n))=>val1P (0≤n∧n<(m:Nat)) (.rows nw sz (m-n.toNat) (cs.drop (n.toNat*sz)))
            | _=>bad
          | false=>bad
        | _,_,_=>bad
      | some _=>bad
    | _=>bad
  | .extract x i=>opd x fun t=>match t with
    | .tup l=>match nthO l i with | some s=>valS s | none=>bad
    | .sv _=>bad
  | .makeFunc fn first caps=>match fn,first.toList with
    | .func f,[]=>opds caps.toList fun ss=>match cellsOne ss with | some l=>val1 (.fn f l) | none=>bad
    | _,_=>bad
  | .call c=>match c.callee with
    | .value x=>opd x fun p=>match p with
      | .sv (.one (.fn f caps))=>opds c.args.toList fun ss=>callAt E.S f (ss ++ caps.map .one)
      | _=>bad
    | .builtin b=>opds c.args.toList (builtinAt E.T c.argTypes.toList b)
    | .invoke _ _=>bad
  | _=>bad
where cellsOne:List Sv→Option (List At)
  | []=>some []
  | .one a :: l=>match cellsOne l with | some r=>some (a :: r) | none=>none
  | .agg _ :: _=>none
end Go.Proofs.YtgeihpalcagpfaaGreatDoor
