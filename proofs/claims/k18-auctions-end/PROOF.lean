import PyProof.Rows.All
import Wide.All
import OpenK.AllK
import Wide.FinOn
import HandS.ForMost
import HandS.Deep
import HandS.Codes
import PySem.Challenge.RW_finesse_k18_whole_auctions_always_end
set_option Elab.async false
set_option maxRecDepth 100000
set_option linter.unusedVariables false
/-! Whole auctions always end: by hand over the hand layer. K18Math is the plain mathematics; then each def of the text with its promise; last the law and the head. -/
/-! Plain mathematics of auctions: a list of calls, what is legal, how long it can be, what the contract is. No program in sight. -/
namespace K18

inductive Cl where
  | pass | dbl | rdbl | bid (k : Nat)
  deriving DecidableEq

def isBid : Cl → Bool
  | .bid _ => true
  | _ => false
def notPass : Cl → Bool
  | .pass => false
  | _ => true
def code : Cl → Int
  | .dbl => 1
  | .rdbl => 2
  | _ => 0

/-- the place of the last of the first n calls of which p holds, or -1 -/
def lastN (p : Cl → Bool) (cs : List Cl) : Nat → Int
  | 0 => -1
  | n + 1 => if p (cs.getD n .pass) = true then (n : Int) else lastN p cs n
def lastP (p : Cl → Bool) (cs : List Cl) : Int := lastN p cs cs.length

theorem lastN_lt (p : Cl → Bool) (cs : List Cl) : ∀ n : Nat, lastN p cs n < (n : Int)
  | 0 => by simp [lastN]
  | n + 1 => by
    have h := lastN_lt p cs n
    simp only [lastN]
    split <;> omega
theorem lastN_ge (p : Cl → Bool) (cs : List Cl) : ∀ n : Nat, -1 ≤ lastN p cs n
  | 0 => by simp [lastN]
  | n + 1 => by
    have h := lastN_ge p cs n
    simp only [lastN]
    split <;> omega
/-- what stands at that place -/
theorem lastN_at (p : Cl → Bool) (cs : List Cl) : ∀ (n : Nat), 0 ≤ lastN p cs n → p (cs.getD (lastN p cs n).toNat .pass) = true
  | 0, h => by simp [lastN] at h
  | n + 1, h => by
    have ih := lastN_at p cs n
    by_cases hp : p (cs.getD n .pass) = true
    · have e : lastN p cs (n + 1) = (n : Int) := by simp only [lastN]; rw [if_pos hp]
      rw [e]
      simpa using hp
    · have e : lastN p cs (n + 1) = lastN p cs n := by simp only [lastN]; rw [if_neg hp]
      rw [e] at h ⊢
      exact ih h
theorem getD_snoc_lt {cs : List Cl} {c : Cl} {i : Nat} (h : i < cs.length) : (cs ++ [c]).getD i .pass = cs.getD i .pass := by
  simp only [List.getD_eq_getElem?_getD, List.getElem?_append_left h]
theorem getD_snoc_eq {cs : List Cl} {c : Cl} : (cs ++ [c]).getD cs.length .pass = c := by
  simp [List.getD_eq_getElem?_getD]
theorem lastN_snoc (p : Cl → Bool) (cs : List Cl) (c : Cl) : ∀ n : Nat, n ≤ cs.length → lastN p (cs ++ [c]) n = lastN p cs n
  | 0, _ => rfl
  | n + 1, h => by
    simp only [lastN]
    rw [getD_snoc_lt (by omega), lastN_snoc p cs c n (by omega)]
theorem lastP_snoc (p : Cl → Bool) (cs : List Cl) (c : Cl) : lastP p (cs ++ [c]) = if p c = true then (cs.length : Int) else lastP p cs := by
  unfold lastP
  rw [List.length_append, List.length_singleton]
  simp only [lastN]
  rw [getD_snoc_eq, lastN_snoc p cs c _ (Nat.le_refl _)]
theorem lastP_nil (p : Cl → Bool) : lastP p [] = -1 := rfl

/-- the places, as the comprehension makes them -/
def plcN (p : Cl → Bool) (cs : List Cl) (n : Nat) : List Nat := (List.range n).filter fun i => p (cs.getD i .pass)
theorem plcN_succ (p : Cl → Bool) (cs : List Cl) (n : Nat) : plcN p cs (n + 1) = plcN p cs n ++ if p (cs.getD n .pass) = true then [n] else [] := by
  unfold plcN
  rw [List.range_succ, List.filter_append]
  congr 1
  simp only [List.filter_cons, List.filter_nil]
theorem plcN_len (p : Cl → Bool) (cs : List Cl) (n : Nat) : (plcN p cs n).length ≤ n := by
  unfold plcN
  exact Nat.le_trans (List.length_filter_le _ _) (by simp)
/-- its last item, or -1 -/
theorem plcN_last (p : Cl → Bool) (cs : List Cl) : ∀ n : Nat, (plcN p cs n = [] ∧ lastN p cs n = -1) ∨ ∃ (l : List Nat) (j : Nat), plcN p cs n = l ++ [j] ∧ lastN p cs n = (j : Int)
  | 0 => .inl ⟨rfl, rfl⟩
  | n + 1 => by
    rw [plcN_succ]
    simp only [lastN]
    by_cases hp : p (cs.getD n .pass) = true
    · rw [if_pos hp, if_pos hp]
      exact .inr ⟨_, n, rfl, rfl⟩
    · rw [if_neg hp, if_neg hp, List.append_nil]
      exact plcN_last p cs n

def over (cs : List Cl) : Bool :=
  decide (4 ≤ (cs.length : Int) - 1 - lastP notPass cs) || (decide ((cs.length : Int) - 1 - lastP notPass cs = 3) && decide (0 ≤ lastP notPass cs))
def bidsN (n : Nat) : List Cl := (List.range n).map Cl.bid
theorem bidsN_succ (n : Nat) : bidsN (n + 1) = bidsN n ++ [Cl.bid n] := by
  unfold bidsN
  rw [List.range_succ, List.map_append]
  rfl
theorem bidsN_len (n : Nat) : (bidsN n).length = n := by simp [bidsN]
theorem bidsN_get {n k : Nat} (h : k < n) : (bidsN n)[k]? = some (Cl.bid k) := by simp [bidsN, h]
theorem bidsN_get' {n k : Nat} {c : Cl} (h : (bidsN n)[k]? = some c) : k < n ∧ c = Cl.bid k := by
  have hk : k < n := by
    have := (List.getElem?_eq_some_iff.mp h).1
    rwa [bidsN_len] at this
  rw [bidsN_get hk] at h
  exact ⟨hk, (Option.some.inj h).symm⟩
/-- the place of the last call that is no pass; the call there -/
def lastC (cs : List Cl) : Cl := cs.getD (lastP notPass cs).toNat .pass
def extra (cs : List Cl) : List Cl :=
  if 0 ≤ lastP notPass cs ∧ ((cs.length : Int) - lastP notPass cs) % 2 = 1 then
    (if isBid (lastC cs) = true then [Cl.dbl] else []) ++ (if lastC cs = .dbl then [Cl.rdbl] else [])
  else []
def rank : Cl → Nat
  | .bid k => k
  | _ => 0
def low (cs : List Cl) : Nat := if lastP isBid cs < 0 then 0 else rank (cs.getD (lastP isBid cs).toNat .pass) + 1
def legalL (B : Nat) (cs : List Cl) : List Cl := if over cs = true then [] else (.pass :: extra cs) ++ (bidsN B).drop (low cs)

theorem legalL_nil {B : Nat} {cs : List Cl} : legalL B cs = [] ↔ over cs = true := by
  unfold legalL
  by_cases h : over cs = true
  · rw [if_pos h]; simp [h]
  · rw [if_neg h]; simp [h]
theorem extra_len (cs : List Cl) : (extra cs).length ≤ 2 := by
  unfold extra
  split
  · rw [List.length_append]
    split <;> split <;> simp
  · simp
theorem legalL_len (B : Nat) (cs : List Cl) : (legalL B cs).length ≤ B + 3 := by
  unfold legalL
  split
  · simp
  · rw [List.length_append, List.length_cons, List.length_drop, bidsN_len]
    have := extra_len cs
    omega

inductive Valid (B : Nat) : List Cl → Prop where
  | nil : Valid B []
  | snoc {cs : List Cl} {c : Cl} : Valid B cs → c ∈ legalL B cs → Valid B (cs ++ [c])

/-- what holds of every valid list: no bid and at most four passes; or the last bid k at b, the last call that is no pass at L -/
def Sit (B : Nat) (cs : List Cl) : Prop :=
  (lastP isBid cs = -1 ∧ lastP notPass cs = -1 ∧ cs.length ≤ 4) ∨
  ∃ k b L : Nat, k < B ∧ lastP isBid cs = (b : Int) ∧ lastP notPass cs = (L : Int) ∧ cs[b]? = some (.bid k) ∧ b ≤ L ∧ L < cs.length ∧ cs.length ≤ L + 4 ∧ b ≤ 3 + 9 * k ∧
    (L = b ∨ (cs[L]? = some .dbl ∧ L ≤ b + 3) ∨ (cs[L]? = some .rdbl ∧ L ≤ b + 6))

theorem over_no {cs : List Cl} (h : lastP notPass cs = -1) : over cs = decide (4 ≤ cs.length) := by
  unfold over
  rw [h]
  rw [Bool.eq_iff_iff]
  simp
  omega
theorem over_at {cs : List Cl} {L : Nat} (h : lastP notPass cs = (L : Int)) : over cs = decide (L + 4 ≤ cs.length) := by
  unfold over
  rw [h]
  rw [Bool.eq_iff_iff]
  simp
  omega
theorem getD_of {cs : List Cl} {i : Nat} {c : Cl} (h : cs[i]? = some c) : cs.getD i .pass = c := by
  rw [List.getD_eq_getElem?_getD, h]
  rfl
theorem get_snoc {cs : List Cl} {c x : Cl} {i : Nat} (h : cs[i]? = some x) : (cs ++ [c])[i]? = some x := by
  rw [List.getElem?_append_left (List.getElem?_eq_some_iff.mp h).1]
  exact h
theorem get_snoc_new {cs : List Cl} {c : Cl} : (cs ++ [c])[cs.length]? = some c := by simp

theorem sit_snoc {B : Nat} {cs : List Cl} {c : Cl} (S : Sit B cs) (hc : c ∈ legalL B cs) : Sit B (cs ++ [c]) := by
  have hov : ¬ over cs = true := fun h => by
    rw [legalL_nil.mpr h] at hc
    cases hc
  unfold legalL at hc
  rw [if_neg hov] at hc
  rcases S with ⟨hb, hL, hn⟩ | ⟨k, b, L, hk, hb, hL, hbk, hbL, hLn, hn4, hb9, hst⟩
  · -- no bid so far
    rw [over_no hL] at hov
    have hn3 : cs.length ≤ 3 := by simp at hov; omega
    have hx : extra cs = [] := by unfold extra; rw [hL]; simp
    have hlow : low cs = 0 := by unfold low; rw [hb]; simp
    rw [hx, hlow] at hc
    simp only [List.drop_zero, List.cons_append, List.nil_append, List.mem_cons] at hc
    rcases hc with rfl | hc
    · exact .inl ⟨by rw [lastP_snoc]; simp [isBid, hb], by rw [lastP_snoc]; simp [notPass, hL], by simp; omega⟩
    · obtain ⟨k, hk, rfl⟩ : ∃ k, k < B ∧ Cl.bid k = c := by simpa [bidsN] using hc
      refine .inr ⟨k, cs.length, cs.length, hk, by rw [lastP_snoc]; simp [isBid], by rw [lastP_snoc]; simp [notPass], get_snoc_new, Nat.le_refl _, by simp, by simp, by omega, .inl rfl⟩
  · rw [over_at hL] at hov
    have hn3 : cs.length ≤ L + 3 := by simp at hov; omega
    have hlow : low cs = k + 1 := by
      unfold low
      rw [hb, if_neg (by omega)]
      rw [show ((b : Int)).toNat = b from rfl, getD_of hbk]
      rfl
    rw [List.mem_append, List.mem_cons, hlow] at hc
    rcases hc with (rfl | hc) | hc
    · -- a pass
      refine .inr ⟨k, b, L, hk, by rw [lastP_snoc]; simp [isBid, hb], by rw [lastP_snoc]; simp [notPass, hL], get_snoc hbk, hbL, by simp; omega, by simp; omega, hb9, ?_⟩
      rcases hst with h | ⟨h, h'⟩ | ⟨h, h'⟩
      · exact .inl h
      · exact .inr (.inl ⟨get_snoc h, h'⟩)
      · exact .inr (.inr ⟨get_snoc h, h'⟩)
    · -- a double, a redouble
      have hlc : cs[L]? = some (lastC cs) := by
        unfold lastC
        rw [hL, show ((L : Int)).toNat = L from rfl, List.getD_eq_getElem?_getD, List.getElem?_eq_getElem hLn]
        rfl
      unfold extra at hc
      split at hc
      · rw [List.mem_append] at hc
        rcases hc with hc | hc
        · split at hc
          · rename_i hib
            have e : c = .dbl := by simpa using hc
            subst e
            have hLb : L = b := by
              rcases hst with h | ⟨h, _⟩ | ⟨h, _⟩
              · exact h
              · rw [h] at hlc
                rw [← Option.some.inj hlc] at hib
                cases hib
              · rw [h] at hlc
                rw [← Option.some.inj hlc] at hib
                cases hib
            exact .inr ⟨k, b, cs.length, hk, by rw [lastP_snoc]; simp [isBid, hb], by rw [lastP_snoc]; simp [notPass], get_snoc hbk, by omega, by simp, by simp, hb9, .inr (.inl ⟨get_snoc_new, by omega⟩)⟩
          · cases hc
        · split at hc
          · rename_i hib
            have e : c = .rdbl := by simpa using hc
            subst e
            have hL3 : L ≤ b + 3 := by
              rcases hst with h | ⟨_, h⟩ | ⟨h, _⟩
              · omega
              · exact h
              · rw [h, hib] at hlc
                cases hlc
            exact .inr ⟨k, b, cs.length, hk, by rw [lastP_snoc]; simp [isBid, hb], by rw [lastP_snoc]; simp [notPass], get_snoc hbk, by omega, by simp, by simp, hb9, .inr (.inr ⟨get_snoc_new, by omega⟩)⟩
          · cases hc
      · cases hc
    · -- a higher bid
      obtain ⟨j, hj⟩ := List.getElem?_of_mem hc
      rw [List.getElem?_drop] at hj
      obtain ⟨hjB, rfl⟩ := bidsN_get' hj
      refine .inr ⟨k + 1 + j, cs.length, cs.length, hjB, by rw [lastP_snoc]; simp [isBid], by rw [lastP_snoc]; simp [notPass], get_snoc_new, Nat.le_refl _, by simp, by simp, ?_, .inl rfl⟩
      rcases hst with h | ⟨_, h⟩ | ⟨_, h⟩ <;> omega
theorem valid_sit {B : Nat} {cs : List Cl} (h : Valid B cs) : Sit B cs := by
  induction h with
  | nil => exact .inl ⟨rfl, rfl, by simp⟩
  | snoc _ hc ih => exact sit_snoc ih hc
theorem sit_len {B : Nat} {cs : List Cl} (S : Sit B cs) : cs.length ≤ 4 + 9 * B := by
  rcases S with ⟨_, _, h⟩ | ⟨k, b, L, hk, _, _, _, _, _, hn, hb, hst⟩
  · omega
  · rcases hst with h | ⟨_, h⟩ | ⟨_, h⟩ <;> omega
theorem valid_take {B : Nat} {cs : List Cl} (h : Valid B cs) : ∀ (i : Nat) (c : Cl), cs[i]? = some c → c ∈ legalL B (cs.take i) ∧ Valid B (cs.take i) := by
  induction h with
  | nil => intro i c h; simp at h
  | @snoc cs c hv hc ih =>
    intro i x hx
    by_cases hi : i < cs.length
    · rw [List.getElem?_append_left hi] at hx
      rw [List.take_append_of_le_length (Nat.le_of_lt hi)]
      exact ih i x hx
    · have hi2 : i = cs.length := by
        have := (List.getElem?_eq_some_iff.mp hx).1
        simp at this
        omega
      subst hi2
      rw [List.getElem?_append_right (Nat.le_refl _)] at hx
      simp at hx
      subst hx
      rw [List.take_left]
      exact ⟨hc, hv⟩

/-! ### the contract -/
/-- place i holds a bid of the last bid's strain, made by its side -/
def okAt (m : Nat) (cs : List Cl) (b : Nat) (i : Nat) : Bool :=
  isBid (cs.getD i .pass) && (decide (rank (cs.getD i .pass) % m = rank (cs.getD b .pass) % m) && decide (((b : Int) - (i : Int)) % 2 = 0))
def firstAt (m : Nat) (cs : List Cl) (b : Nat) : Nat := ((List.range cs.length).find? (okAt m cs b)).getD 0
def contr (m : Nat) (d : Int) (cs : List Cl) : Option (List Int) :=
  if lastP isBid cs < 0 then none
  else
    let b := (lastP isBid cs).toNat
    let k := rank (cs.getD b .pass)
    some [((k / m + 1 : Nat) : Int), ((k % m : Nat) : Int), code (lastC cs), (d + (firstAt m cs b : Int)) % 4]
theorem first_is {m : Nat} {cs : List Cl} {b i : Nat} (hi : i < cs.length) (h : okAt m cs b i = true) (hno : ∀ j, j < i → okAt m cs b j = false) : firstAt m cs b = i := by
  unfold firstAt
  rw [List.find?_range_eq_some.mpr ⟨h, List.mem_range.mpr hi, fun j hj => by rw [hno j hj]; rfl⟩]
  rfl
theorem okAt_self {m : Nat} {cs : List Cl} {b : Nat} (h : isBid (cs.getD b .pass) = true) : okAt m cs b b = true := by
  unfold okAt
  rw [h]
  simp
theorem contr_moved {m : Nat} {d y : Int} {cs : List Cl} {a b c e : Int} (h : contr m d cs = some [a, b, c, e]) : contr m ((d + y) % 4) cs = some [a, b, c, (e + y) % 4] := by
  unfold contr at h ⊢
  split at h
  · cases h
  · rename_i hb
    rw [if_neg hb]
    simp only [Option.some.injEq, List.cons.injEq, and_true] at h
    obtain ⟨rfl, rfl, rfl, rfl⟩ := h
    simp only [Option.some.injEq, List.cons.injEq, true_and, and_true]
    omega
theorem contr_none {m : Nat} {d d' : Int} {cs : List Cl} (h : contr m d cs = none) : contr m d' cs = none := by
  unfold contr at h ⊢
  split at h
  · rename_i hb
    rw [if_pos hb]
  · cases h
end K18

namespace K18
open PySem L2

/-! ### the text by places -/
def top (i : Nat) : Stmt := PySem.Challenge.pw_finesse_k18_whole_auctions_always_end.main.body.getD i (.Pass ⟨0, 0, 0, 0⟩)
abbrev sSide : Stmt := top 6
abbrev sBids : Stmt := top 11
abbrev sInit : Stmt := inClass (top 12) 0
abbrev sPlayer : Stmt := inClass (top 12) 1
abbrev sTurn : Stmt := inClass (top 12) 2
abbrev sCalls : Stmt := inClass (top 12) 3
abbrev sLast : Stmt := inClass (top 12) 4
abbrev sLastBid : Stmt := inClass (top 12) 5
abbrev sOver : Stmt := inClass (top 12) 6
abbrev sLegal : Stmt := inClass (top 12) 7
abbrev sCall : Stmt := inClass (top 12) 8
abbrev sContract : Stmt := inClass (top 12) 9
abbrev sNumbers : Stmt := top 14
abbrev sPool : Stmt := top 15
abbrev sPick : Stmt := top 16
abbrev sLawContract : Stmt := top 17
abbrev sLaw : Stmt := top 18

/-! ### heaps -/
theorem same_new {H : Hp} {p : Addr} {o : HO} (h : H p = none) : Same H (upd H p o) := fun b u e => by
  rw [upd_ne (ne_of_none e h)]
  exact e
theorem same_upd {H H' : Hp} {p : Addr} {o : HO} (s : Same H H') (h : H p = none) : Same H (upd H' p o) := fun b u e => by
  rw [upd_ne (ne_of_none e h)]
  exact s b u e
/-- the tuples stay -/
def Keep (H H' : Hp) : Prop := ∀ a xs, H a = some (.tup xs) → H' a = some (.tup xs)
theorem Keep.refl (H : Hp) : Keep H H := fun _ _ h => h
theorem Keep.trans {H H1 H2 : Hp} (a : Keep H H1) (b : Keep H1 H2) : Keep H H2 := fun c o h => b c o (a c o h)
theorem Same.keep {H H' : Hp} (h : Same H H') : Keep H H' := fun a xs e => h a _ e
/-- all but what stands at p stays, and no tuple stands at p -/
theorem keep_but {H H' : Hp} {p : Addr} {o : HO} (hp : H p = some o) (hn : ∀ xs, o ≠ .tup xs) (h : ∀ b u, H b = some u → b ≠ p → H' b = some u) : Keep H H' := fun a xs e =>
  h a _ e fun q => by
    subst q
    rw [hp] at e
    exact hn xs (Option.some.inj e)

def KT (K : PySem.W.Frag) (a : Addr) (xs : List V) : Prop :=
  ∃ (o : Obj) (its : Array Value) (n : Nat), K.lookup a = some o ∧ o.cls = .type "tuple" ∧ o.data = .seq its n ∧ its.size ≤ sizeLine ∧ Vals xs its.toList
def TupAt (K : PySem.W.Frag) (H : Hp) (a : Addr) (xs : List V) : Prop := H a = some (.tup xs) ∨ KT K a xs
theorem TupAt.sq {K : PySem.W.Frag} {H : Hp} {a : Addr} {xs : List V} (h : TupAt K H a xs) : SqT K H a xs := h.elim (fun h => .inl (.inl h)) .inr
theorem TupAt.keep {K : PySem.W.Frag} {H H' : Hp} {a : Addr} {xs : List V} (k : Keep H H') (h : TupAt K H a xs) : TupAt K H' a xs := h.elim (fun h => .inl (k _ _ h)) .inr

/-! ### a call as a tuple -/
def nameOf : Cl → Str
  | .pass => "pass"
  | .dbl => "double"
  | .rdbl => "redouble"
  | .bid _ => "bid"
def tailV (m : Nat) : Cl → List V
  | .bid k => [.int ((k / m + 1 : Nat) : Int), .int ((k % m : Nat) : Int)]
  | _ => []
def tailD (m : Nat) : Cl → List PyData
  | .bid k => [.int ((k / m + 1 : Nat) : Int), .int ((k % m : Nat) : Int)]
  | _ => []
def tupV (m : Nat) (c : Cl) : List V := .str (nameOf c) :: tailV m c
def dat (m : Nat) (c : Cl) : PyData := .tuple (.str (nameOf c) :: tailD m c)

def CallAt (K : PySem.W.Frag) (m : Nat) (H : Hp) (v : V) (c : Cl) : Prop := ∃ a, v = .ref a ∧ TupAt K H a (tupV m c)
theorem CallAt.keep {K : PySem.W.Frag} {m : Nat} {H H' : Hp} {v : V} {c : Cl} (k : Keep H H') (h : CallAt K m H v c) : CallAt K m H' v c :=
  let ⟨a, e, t⟩ := h
  ⟨a, e, t.keep k⟩
theorem CallAt.dp {K : PySem.W.Frag} {m : Nat} {H : Hp} {v : V} {c : Cl} (h : CallAt K m H v c) : Dp K H v (dat m c) := by
  obtain ⟨a, rfl, t⟩ := h
  refine .tup t.sq (.cons (.str _) ?_)
  cases c with
  | bid k => exact .cons (.int _) (.cons (.int _) .nil)
  | _ => exact .nil
theorem bid_ne_pass : ¬ (("bid" : Str) = "pass") := by decide +kernel
theorem bid_ne_dbl : ¬ (("bid" : Str) = "double") := by decide +kernel
theorem bid_ne_rdbl : ¬ (("bid" : Str) = "redouble") := by decide +kernel
theorem pass_ne_dbl : ¬ (("pass" : Str) = "double") := by decide +kernel
theorem pass_ne_rdbl : ¬ (("pass" : Str) = "redouble") := by decide +kernel
theorem dbl_ne_rdbl : ¬ (("double" : Str) = "redouble") := by decide +kernel
theorem name_bid (c : Cl) : decide (V.str (nameOf c) = V.str "bid") = isBid c := by
  cases c with
  | pass => exact decide_eq_false fun q => bid_ne_pass (V.str.inj q).symm
  | dbl => exact decide_eq_false fun q => bid_ne_dbl (V.str.inj q).symm
  | rdbl => exact decide_eq_false fun q => bid_ne_rdbl (V.str.inj q).symm
  | bid k => exact decide_eq_true rfl
theorem name_pass (c : Cl) : (!decide (V.str (nameOf c) = V.str "pass")) = notPass c := by
  have e : decide (V.str (nameOf c) = V.str "pass") = !notPass c := by
    cases c with
    | pass => exact decide_eq_true rfl
    | dbl => exact decide_eq_false fun q => pass_ne_dbl (V.str.inj q).symm
    | rdbl => exact decide_eq_false fun q => pass_ne_rdbl (V.str.inj q).symm
    | bid k => exact decide_eq_false fun q => bid_ne_pass (V.str.inj q)
  rw [e, Bool.not_not]
theorem strOk_name (c : Cl) : (PyData.str (nameOf c)).canLay0 = true := by
  cases c with
  | pass => show (PyData.str "pass").canLay0 = true; decide +kernel
  | dbl => show (PyData.str "double").canLay0 = true; decide +kernel
  | rdbl => show (PyData.str "redouble").canLay0 = true; decide +kernel
  | bid k => show (PyData.str "bid").canLay0 = true; decide +kernel
theorem dat_lay (m : Nat) (c : Cl) : (dat m c).canLay0 = true := by
  have h := strOk_name c
  unfold dat
  simp only [PyData.canLay0, PyData.canLayAll0] at h ⊢
  rw [h]
  cases c <;> simp [tailD, PyData.canLay0, PyData.canLayAll0]
theorem dat_depth (m : Nat) (c : Cl) : (dat m c).depth = 1 := by cases c <;> simp [dat, tailD, PyData.depth, PyData.depthAll]
theorem dat_shaped (m : Nat) (c : Cl) : SeqAt.shaped (dat m c) = true := by
  show ((dat m c).canLay0 && decide ((dat m c).depth ≤ 64)) = true
  rw [dat_lay, dat_depth]
  rfl
theorem dats_lay (m : Nat) : ∀ cs : List Cl, PyData.canLayAll0 (cs.map (dat m)) = true
  | [] => by simp [PyData.canLayAll0]
  | c :: cs => by simp [PyData.canLayAll0, dat_lay m c, dats_lay m cs]
theorem dats_depth (m : Nat) : ∀ cs : List Cl, PyData.depthAll (cs.map (dat m)) ≤ 1
  | [] => by simp [PyData.depthAll]
  | c :: cs => by
    have h1 := dats_depth m cs
    have h2 := dat_depth m c
    simp only [List.map_cons, PyData.depthAll]
    omega
theorem dats_shaped (m : Nat) (cs : List Cl) : SeqAt.shaped (.list (cs.map (dat m))) = true := by
  have h1 := dats_depth m cs
  have h2 : PyData.depth (.list (cs.map (dat m))) ≤ 64 := by
    simp only [PyData.depth]
    omega
  show (PyData.canLay0 (.list (cs.map (dat m))) && decide (PyData.depth (.list (cs.map (dat m))) ≤ 64)) = true
  rw [Bool.and_eq_true]
  exact ⟨by simp only [PyData.canLay0]; exact dats_lay m cs, decide_eq_true h2⟩
theorem bid_inj {m k j : Nat} (hm : 0 < m) (h1 : k / m = j / m) (h2 : k % m = j % m) : k = j := by
  rw [← Nat.div_add_mod k m, ← Nat.div_add_mod j m, h1, h2]
theorem beq_str_ne {x y : Str} (h : ¬ x = y) : (x == y) = false := by
  cases e : (x == y) with
  | false => rfl
  | true => exact absurd (eq_of_beq e) h
theorem dat_eqv {m : Nat} (hm : 0 < m) (c e : Cl) : PyData.eqv (dat m c) (dat m e) = decide (c = e) := by
  have st : ∀ a b : Cl, ¬ nameOf a = nameOf b → PyData.eqv (dat m a) (dat m b) = decide (a = b) := fun a b h => by
    have hab : ¬ a = b := fun q => h (by rw [q])
    rw [decide_eq_false hab]
    unfold dat
    simp only [PyData.eqv, PyData.eqvAll]
    rw [beq_str_ne h, Bool.false_and]
  cases c with
  | pass =>
    cases e with
    | pass => simp [dat, tailD, PyData.eqv, PyData.eqvAll]
    | dbl => exact st _ _ pass_ne_dbl
    | rdbl => exact st _ _ pass_ne_rdbl
    | bid j => exact st _ _ fun q => bid_ne_pass q.symm
  | dbl =>
    cases e with
    | pass => exact st _ _ fun q => pass_ne_dbl q.symm
    | dbl => simp [dat, tailD, PyData.eqv, PyData.eqvAll]
    | rdbl => exact st _ _ dbl_ne_rdbl
    | bid j => exact st _ _ fun q => bid_ne_dbl q.symm
  | rdbl =>
    cases e with
    | pass => exact st _ _ fun q => pass_ne_rdbl q.symm
    | dbl => exact st _ _ fun q => dbl_ne_rdbl q.symm
    | rdbl => simp [dat, tailD, PyData.eqv, PyData.eqvAll]
    | bid j => exact st _ _ fun q => bid_ne_rdbl q.symm
  | bid k =>
    cases e with
    | pass => exact st _ _ bid_ne_pass
    | dbl => exact st _ _ bid_ne_dbl
    | rdbl => exact st _ _ bid_ne_rdbl
    | bid j =>
      unfold dat
      simp only [tailD, PyData.eqv, PyData.eqvAll, nameOf, BEq.rfl, Bool.true_and, Bool.and_true]
      by_cases h : k = j
      · subst h
        simp
      · rw [decide_eq_false (fun q => h (Cl.bid.inj q))]
        by_cases h1 : k / m = j / m
        · have h2 : ¬ k % m = j % m := fun q => h (bid_inj hm h1 q)
          rw [beq_eq_false_iff_ne.mpr (show ((k % m : Nat) : Int) ≠ ((j % m : Nat) : Int) by omega), Bool.and_false]
        · rw [beq_eq_false_iff_ne.mpr (show ((k / m + 1 : Nat) : Int) ≠ ((j / m + 1 : Nat) : Int) by omega), Bool.false_and]

/-! ### a list of calls -/
structure CallsAt (K : PySem.W.Frag) (m : Nat) (H : Hp) (vs : List V) (cs : List Cl) : Prop where
  len : vs.length = cs.length
  at_ : ∀ (i : Nat) (v : V) (c : Cl), vs[i]? = some v → cs[i]? = some c → CallAt K m H v c
section
variable {K : PySem.W.Frag} {m : Nat} {H H' : Hp} {vs ws : List V} {cs es : List Cl}
theorem CallsAt.nil : CallsAt K m H [] [] := ⟨rfl, fun i v c h => by simp at h⟩
theorem CallsAt.keep (k : Keep H H') (h : CallsAt K m H vs cs) : CallsAt K m H' vs cs := ⟨h.len, fun i v c e e' => (h.at_ i v c e e').keep k⟩
theorem CallsAt.append (h : CallsAt K m H vs cs) (g : CallsAt K m H ws es) : CallsAt K m H (vs ++ ws) (cs ++ es) := by
  refine ⟨by rw [List.length_append, List.length_append, h.len, g.len], fun i v c e e' => ?_⟩
  by_cases hi : i < vs.length
  · rw [List.getElem?_append_left hi] at e
    rw [List.getElem?_append_left (by rw [← h.len]; exact hi)] at e'
    exact h.at_ i v c e e'
  · rw [List.getElem?_append_right (by omega)] at e
    rw [List.getElem?_append_right (by rw [← h.len]; omega)] at e'
    rw [← h.len] at e'
    exact g.at_ _ v c e e'
theorem CallsAt.one {v : V} {c : Cl} (h : CallAt K m H v c) : CallsAt K m H [v] [c] := by
  refine ⟨rfl, fun i x y e e' => ?_⟩
  cases i with
  | zero =>
    cases e
    cases e'
    exact h
  | succ i => simp at e
theorem CallsAt.snoc {v : V} {c : Cl} (h : CallsAt K m H vs cs) (g : CallAt K m H v c) : CallsAt K m H (vs ++ [v]) (cs ++ [c]) := h.append (.one g)
theorem CallsAt.drop (h : CallsAt K m H vs cs) (n : Nat) : CallsAt K m H (vs.drop n) (cs.drop n) :=
  ⟨by rw [List.length_drop, List.length_drop, h.len], fun i v c e e' => h.at_ (n + i) v c (by rw [← List.getElem?_drop]; exact e) (by rw [← List.getElem?_drop]; exact e')⟩
theorem CallsAt.get (h : CallsAt K m H vs cs) {i : Nat} {c : Cl} (e : cs[i]? = some c) : ∃ v, vs[i]? = some v ∧ CallAt K m H v c := by
  have hi : i < vs.length := by
    rw [h.len]
    exact (List.getElem?_eq_some_iff.mp e).1
  exact ⟨vs[i], List.getElem?_eq_getElem hi, h.at_ i _ c (List.getElem?_eq_getElem hi) e⟩
theorem CallsAt.get' (h : CallsAt K m H vs cs) {i : Nat} {v : V} (e : vs[i]? = some v) : cs[i]? = some (cs.getD i .pass) ∧ CallAt K m H v (cs.getD i .pass) := by
  have hi : i < cs.length := by
    rw [← h.len]
    exact (List.getElem?_eq_some_iff.mp e).1
  have e' : cs[i]? = some (cs.getD i .pass) := by rw [List.getD_eq_getElem?_getD, List.getElem?_eq_getElem hi]; rfl
  exact ⟨e', h.at_ i v _ e e'⟩
theorem CallsAt.dps (h : CallsAt K m H vs cs) : DpAll K H vs (cs.map (dat m)) := by
  induction vs generalizing cs with
  | nil =>
    cases cs with
    | nil => exact .nil
    | cons c cs => exact absurd h.len (by simp)
  | cons v vs ih =>
    cases cs with
    | nil => exact absurd h.len (by simp)
    | cons c cs =>
      refine .cons (h.at_ 0 v c rfl rfl).dp (ih ⟨by simpa using h.len, fun i x y e e' => h.at_ (i + 1) x y (by simpa using e) (by simpa using e')⟩)
end

/-! ### an auction -/
theorem bd_ : ¬ (("_bids" : Str) = "_dealer") := by decide +kernel
theorem bc_ : ¬ (("_bids" : Str) = "_calls") := by decide +kernel
theorem dc_ : ¬ (("_dealer" : Str) = "_calls") := by decide +kernel
def fl (lb : Addr) (d : Int) (lc : Addr) : List (Str × V) := putF "_calls" (.ref lc) (putF "_dealer" (.int d) (putF "_bids" (.ref lb) []))
section
variable {lb lc : Addr} {d : Int}
theorem fl_bids : (fl lb d lc).lookup ("_bids" : Str) = some (.ref lb) := by
  unfold fl
  rw [lookup_putF, if_neg bc_, lookup_putF, if_neg bd_, lookup_putF, if_pos rfl]
theorem fl_dealer : (fl lb d lc).lookup ("_dealer" : Str) = some (.int d) := by
  unfold fl
  rw [lookup_putF, if_neg dc_, lookup_putF, if_pos rfl]
theorem fl_calls : (fl lb d lc).lookup ("_calls" : Str) = some (.ref lc) := by
  unfold fl
  rw [lookup_putF, if_pos rfl]
theorem fl_no {x : Str} (h1 : ¬ x = "_bids") (h2 : ¬ x = "_dealer") (h3 : ¬ x = "_calls") : (fl lb d lc).lookup x = none := by
  unfold fl
  rw [lookup_putF, if_neg h3, lookup_putF, if_neg h2, lookup_putF, if_neg h1]
  all_goals rfl
end
/-- an auction of dealer d stands at p; its list of calls at lc holds cs; m strains, B bids -/
def AucAt (C : Addr) (K : PySem.W.Frag) (m B : Nat) (H : Hp) (p lc : Addr) (d : Int) (cs : List Cl) : Prop :=
  ∃ (dx lb : Addr) (bs vs : List V), H p = some (.ins C dx (fl lb d lc)) ∧ H lb = some (.lst bs) ∧ CallsAt K m H bs (bidsN B) ∧ H lc = some (.lst vs) ∧ CallsAt K m H vs cs ∧ lb ≠ lc
theorem AucAt.same {C : Addr} {K : PySem.W.Frag} {m B : Nat} {H H' : Hp} {p lc : Addr} {d : Int} {cs : List Cl} (h : AucAt C K m B H p lc d cs) (s : Same H H') : AucAt C K m B H' p lc d cs := by
  obtain ⟨dx, lb, bs, vs, h1, h2, h3, h4, h5, h6⟩ := h
  exact ⟨dx, lb, bs, vs, s _ _ h1, s _ _ h2, h3.keep (Same.keep s), s _ _ h4, h5.keep (Same.keep s), h6⟩
/-- .. by what stays: all but the list at x, which is another -/
theorem AucAt.but {C : Addr} {K : PySem.W.Frag} {m B : Nat} {H H' : Hp} {p lc x : Addr} {xs : List V} {d : Int} {cs : List Cl} (h : AucAt C K m B H p lc d cs) (s : ∀ b o, H b = some o → b ≠ x → H' b = some o)
    (hx : H x = some (.lst xs)) (n1 : lc ≠ x) (n2 : ∀ lb dx, H p = some (.ins C dx (fl lb d lc)) → lb ≠ x) : AucAt C K m B H' p lc d cs := by
  obtain ⟨dx, lb, bs, vs, h1, h2, h3, h4, h5, h6⟩ := h
  have k : Keep H H' := keep_but hx (fun _ q => by cases q) s
  exact ⟨dx, lb, bs, vs, s _ _ h1 (ne_of h1 hx fun q => by cases q), s _ _ h2 (n2 lb dx h1), h3.keep k, s _ _ h4 n1, h5.keep k, h6⟩

/-! ### the law's pool -/
def PoolAt (H : Hp) (q : Addr) (i : Nat) : Prop :=
  ∃ (l : Addr) (ks : List Int), H q = some (.lst [.ref l, .int (i : Int)]) ∧ H l = some (.lst (ks.map V.int)) ∧ 0 < ks.length ∧ ks.length ≤ 241 ∧ ∀ k, k ∈ ks → 0 ≤ k ∧ k < 4096
theorem PoolAt.same {H H' : Hp} {q : Addr} {i : Nat} (h : PoolAt H q i) (s : Same H H') : PoolAt H' q i := by
  obtain ⟨l, ks, h1, h2, h3⟩ := h
  exact ⟨l, ks, s _ _ h1, s _ _ h2, h3⟩

/-! ### what the walk asks of the class, the constants and the built-ins as the top leaves them -/
structure Txt (K : PySem.W.Frag) (mg : Str → Option Value) (C aP aD aR : Addr) : Prop where
  cl : Cls K C
  nB : NoAttr K C "_bids"
  nD : NoAttr K C "_dealer"
  nC : NoAttr K C "_calls"
  mgC : mg "Auction" = some (.ref C)
  mgP : mg "PASS" = some (.ref aP)
  mgD : mg "DOUBLE" = some (.ref aD)
  mgR : mg "REDOUBLE" = some (.ref aR)
  kP : KT K aP [.str "pass"]
  kD : KT K aD [.str "double"]
  kR : KT K aR [.str "redouble"]
  len : mg "len" = none
  enum : mg "enumerate" = none
  range : mg "range" = none
  list : mg "list" = none
  int : mg "int" = none
  abs : mg "abs" = none
  min : mg "min" = none
section
variable {K : PySem.W.Frag} {mg : Str → Option Value} {C aP aD aR : Addr} {m : Nat} {H : Hp}
theorem Txt.pass (T : Txt K mg C aP aD aR) : CallAt K m H (.ref aP) .pass := ⟨aP, rfl, .inr T.kP⟩
theorem Txt.dbl (T : Txt K mg C aP aD aR) : CallAt K m H (.ref aD) .dbl := ⟨aD, rfl, .inr T.kD⟩
theorem Txt.rdbl (T : Txt K mg C aP aD aR) : CallAt K m H (.ref aR) .rdbl := ⟨aR, rfl, .inr T.kR⟩
end

/-! ### enumerate(list) in a comprehension and in a for -/
theorem lc_enum {K : PySem.W.Frag} {a : Addr} {xs : List V} {g : TG} {tt : TT} {te : TE} {vs : List Nat} {σ : St} {H1 : Hp} {D : Addr} {Qd : Hp → Prop} (Pv : Nat → Hp → Prop) (h0 : Pv 0 (upd H1 D (.lst []))) (hl : ∀ i H, i ≤ xs.length → Pv i H → SqL K H a xs)
    (hs : ∀ i x T H, xs[i]? = some x → H T = none → Pv i H → g (.ref T) (wipe σ vs) (upd H T (.tup [.int (i : Nat), x])) fun σ2 H2 => wipe σ2 vs = wipe σ vs ∧ tt σ2 H2 fun b H3 =>
      if b = true then te σ2 H3 fun y H4 => ∃ acc, H4 D = some (.lst acc) ∧ acc.length < sizeLine ∧ Pv (i + 1) (upd H4 D (.lst (acc ++ [y]))) else Pv (i + 1) H3) (hd : ∀ H, Pv xs.length H → Qd H) :
    ∃ W : Nat → Nat → Hp → Prop, (∃ m, W 0 m (upd H1 D (.lst []))) ∧ ∀ i m H, W i m H →
      ((Ite K a).stop i H ∧ Qd H) ∨ ((Ite K a).go i H ∧ ∃ Nx : Hp → Prop, (∀ H', Nx H' → ∃ m', m' < m ∧ W (i + 1) m' H') ∧ ∀ x H', (Ite K a).yld i H x H' → g x (wipe σ vs) H' fun σ2 H2 => wipe σ2 vs = wipe σ vs ∧ tt σ2 H2 fun b H3 =>
        if b = true then te σ2 H3 fun y H4 => ∃ acc, H4 D = some (.lst acc) ∧ acc.length < sizeLine ∧ Nx (upd H4 D (.lst (acc ++ [y]))) else Nx H3) := by
  refine ⟨fun i m H => m = xs.length - i ∧ i ≤ xs.length ∧ Pv i H, ⟨xs.length, by simp, Nat.zero_le _, h0⟩, ?_⟩
  rintro i m H ⟨rfl, hi, p⟩
  have q := hl i H hi p
  by_cases hlt : i < xs.length
  · refine .inr ⟨⟨xs, xs[i], q, by simp [hlt]⟩, Pv (i + 1), fun H' p' => ⟨xs.length - (i + 1), by omega, rfl, hlt, p'⟩, fun x H' y => ?_⟩
    obtain ⟨T, x', rfl, hT, rfl, y⟩ := y
    exact hs i x' T _ (y xs q) hT p
  · have e : i = xs.length := by omega
    subst e
    exact .inl ⟨⟨xs, q, Nat.le_refl _⟩, hd H p⟩
theorem for_enum {K : PySem.W.Frag} {a : Addr} {xs : List V} {g : TG} {tb : TS} {D : Ends} {σ : St} {H : Hp} (Pv : Nat → St → Hp → Prop) (h0 : Pv 0 σ H) (hl : ∀ i σ H, i ≤ xs.length → Pv i σ H → SqL K H a xs)
    (hs : ∀ i x T σ H, xs[i]? = some x → H T = none → Pv i σ H → g (.ref T) σ (upd H T (.tup [.int (i : Nat), x])) fun σ2 H2 => tb { D with nx := Pv (i + 1), ct := Pv (i + 1), bk := D.nx } σ2 H2) (hd : ∀ σ H, Pv xs.length σ H → D.nx σ H) :
    ∃ W : Nat → Nat → St → Hp → Prop, (∃ m, W 0 m σ H) ∧ ∀ i m σ H, W i m σ H →
      ((Ite K a).stop i H ∧ D.nx σ H) ∨ ((Ite K a).go i H ∧ ∃ N : St → Hp → Prop, (∀ σ' H', N σ' H' → ∃ m', m' < m ∧ W (i + 1) m' σ' H') ∧ ∀ x H', (Ite K a).yld i H x H' → g x σ H' fun σ2 H2 => tb { D with nx := N, ct := N, bk := D.nx } σ2 H2) := by
  refine ⟨fun i m σ H => m = xs.length - i ∧ i ≤ xs.length ∧ Pv i σ H, ⟨xs.length, by simp, Nat.zero_le _, h0⟩, ?_⟩
  rintro i m σ H ⟨rfl, hi, p⟩
  have q := hl i σ H hi p
  by_cases hlt : i < xs.length
  · refine .inr ⟨⟨xs, xs[i], q, by simp [hlt]⟩, Pv (i + 1), fun σ' H' p' => ⟨xs.length - (i + 1), by omega, rfl, hlt, p'⟩, fun x H' y => ?_⟩
    obtain ⟨T, x', rfl, hT, rfl, y⟩ := y
    exact hs i x' T σ _ (y xs q) hT p
  · have e : i = xs.length := by omega
    subst e
    exact .inl ⟨⟨xs, q, Nat.le_refl _⟩, hd σ H p⟩
end K18

namespace K18
open PySem L2

/-! ### promises -/
def spSide : Sp := fun vs H Q _ => ∃ i : Int, vs = [.int i] ∧ Q (.int (i % 2)) H
def spPlayer (C : Addr) : Sp := fun vs H Q _ => ∃ (p dx lb lc : Addr) (d i : Int), vs = [.ref p, .int i] ∧ H p = some (.ins C dx (fl lb d lc)) ∧ Q (.int ((d + i) % 4)) H
def spTurn (C : Addr) : Sp := fun vs H Q _ => ∃ (p dx lb lc : Addr) (d : Int) (xs : List V), vs = [.ref p] ∧ H p = some (.ins C dx (fl lb d lc)) ∧ H lc = some (.lst xs) ∧ Q (.int ((d + (xs.length : Int)) % 4)) H
def spCalls (C : Addr) : Sp := fun vs H Q _ => ∃ (p dx lb lc : Addr) (d : Int) (xs : List V), vs = [.ref p] ∧ H p = some (.ins C dx (fl lb d lc)) ∧ H lc = some (.lst xs) ∧ ∀ l, H l = none → Q (.ref l) (upd H l (.lst xs))
/-- the place of the last call of which f holds -/
def spPlace (C : Addr) (K : PySem.W.Frag) (f : Cl → Bool) : Sp := fun vs H Q _ => ∃ (m : Nat) (p dx lb lc : Addr) (d : Int) (xs : List V) (cs : List Cl), vs = [.ref p] ∧ 0 < m ∧ H p = some (.ins C dx (fl lb d lc)) ∧ H lc = some (.lst xs) ∧ CallsAt K m H xs cs ∧ cs.length ≤ 1000 ∧
  ∀ H', Same H H' → Q (.int (lastP f cs)) H'
def spOver (C : Addr) (K : PySem.W.Frag) : Sp := fun vs H Q _ => ∃ (m : Nat) (p dx lb lc : Addr) (d : Int) (xs : List V) (cs : List Cl), vs = [.ref p] ∧ 0 < m ∧ H p = some (.ins C dx (fl lb d lc)) ∧ H lc = some (.lst xs) ∧ CallsAt K m H xs cs ∧ cs.length ≤ 1000 ∧
  ∀ H', Same H H' → Q (.bl (over cs)) H'

section
variable {P : Program} {w : World} {K : PySem.W.Frag} {mg : Str → Option Value} {base : Heap}

theorem scSide : FnScope ["player"] ["player"] (defScope sSide) := ⟨rfl, rfl, rfl, by decide +kernel, rfl, by decide +kernel, by decide +kernel⟩
theorem ok_side {f : Addr} {fd : FuncData} (F : Fun K "side_of" "side_of" sSide f fd) : FnOk P w K mg base CX0 1 f fd ["player"] spSide := by
  refine F.ok scSide (fun vs H Q E h => ?_) (fun cdv A outer s H vs Q E hr h => ?_)
  · obtain ⟨i, rfl, _⟩ := h
    rfl
  · obtain ⟨i, rfl, k⟩ := h
    refine ⟨_, pss_one (ps_ret (pe_op op_mod (pv 0) pe_int)), ?_⟩
    exact ⟨_, rfl, _, _, rfl, rfl, (by show (0 : Int) < 2; decide), k⟩

theorem scPlayer : FnScope ["self", "at"] ["self", "at"] (defScope sPlayer) := ⟨rfl, rfl, rfl, by decide +kernel, rfl, by decide +kernel, by decide +kernel⟩
theorem ok_player {f C aP aD aR : Addr} {fd : FuncData} (F : Fun K "player_of" "Auction.player_of" sPlayer f fd) (T : Txt K mg C aP aD aR) : FnOk P w K mg base CX0 1 f fd ["self", "at"] (spPlayer C) := by
  refine F.ok scPlayer (fun vs H Q E h => ?_) (fun cdv A outer s H vs Q E hr h => ?_)
  · obtain ⟨p, dx, lb, lc, d, i, rfl, _⟩ := h
    rfl
  · obtain ⟨p, dx, lb, lc, d, i, rfl, h1, k⟩ := h
    refine ⟨_, pss_one (ps_ret (pe_op op_mod (pe_op op_add (pe_fld (pv 0) rfl) (pv 1)) pe_int)), ?_⟩
    exact ⟨_, rfl, p, C, dx, _, _, rfl, h1, T.cl, T.nD, fl_dealer, _, rfl, _, _, rfl, rfl, _, _, rfl, rfl, (by show (0 : Int) < 4; decide), k⟩

theorem scTurn : FnScope ["self"] ["self"] (defScope sTurn) := ⟨rfl, rfl, rfl, by decide +kernel, rfl, by decide +kernel, by decide +kernel⟩
theorem ok_turn {f fP C aP aD aR : Addr} {fd fdP : FuncData} (F : Fun K "turn" "Auction.turn" sTurn f fd) (T : Txt K mg C aP aD aR)
    (FP : Fun K "player_of" "Auction.player_of" sPlayer fP fdP) (bP : Binds K fdP ["self", "at"] []) (mP : Meth K C "player_of" fP) : FnOk P w K mg base CX0 2 f fd ["self"] (spTurn C) := by
  have GP : FnOk P w K mg base CX0 1 fP fdP ["self", "at"] (spPlayer C) := ok_player FP T
  refine F.ok scTurn (fun vs H Q E h => ?_) (fun cdv A outer s H vs Q E hr h => ?_)
  · obtain ⟨p, dx, lb, lc, d, xs, rfl, _⟩ := h
    rfl
  · obtain ⟨p, dx, lb, lc, d, xs, rfl, h1, h2, k⟩ := h
    refine ⟨_, pss_one (ps_ret (pe_meth (pv 0) T.cl mP GP hr bP .nil pass0 (pa_cons (pe_callB call_len_seq (by rfl) T.len PySem.boot_len (pa_cons (pe_fld (pv 0) rfl) pa_nil)) pa_nil))), ?_⟩
    exact ⟨_, rfl, p, dx, _, rfl, h1, fl_no (by decide +kernel) (by decide +kernel) (by decide +kernel), _, rfl, p, C, dx, _, _, rfl, h1, T.cl, T.nC, fl_calls, lc, _, rfl, .inl (SqL.of h2), p, dx, lb, lc, d, _, rfl, h1, k⟩

theorem scCalls : FnScope ["self"] ["self"] (defScope sCalls) := ⟨rfl, rfl, rfl, by decide +kernel, rfl, by decide +kernel, by decide +kernel⟩
theorem ok_calls {f C aP aD aR : Addr} {fd : FuncData} (F : Fun K "calls" "Auction.calls" sCalls f fd) (T : Txt K mg C aP aD aR) : FnOk P w K mg base CX0 1 f fd ["self"] (spCalls C) := by
  refine F.ok scCalls (fun vs H Q E h => ?_) (fun cdv A outer s H vs Q E hr h => ?_)
  · obtain ⟨p, dx, lb, lc, d, xs, rfl, _⟩ := h
    rfl
  · obtain ⟨p, dx, lb, lc, d, xs, rfl, h1, h2, k⟩ := h
    refine ⟨_, pss_one (ps_ret (pe_callTy call_list_of (by rfl) T.list (by decide +kernel) (pa_cons (pe_fld (pv 0) rfl) pa_nil))), ?_⟩
    exact ⟨_, rfl, p, C, dx, _, _, rfl, h1, T.cl, T.nC, fl_calls, lc, _, rfl, .inl (SqL.of h2), k⟩

/-! ### last, last_bid -/
abbrev gPair (K : PySem.W.Frag) (i j : Nat) : TG := gTup K 2 (gCons (gName i) (gCons (gName j) gNil))
theorem lst_ne_tup {H : Hp} {D T : Addr} {xs : List V} (h : H D = some (.lst xs)) (hT : H T = none) : D ≠ T := ne_of_none h hT

/-- what the comprehension's list holds -/
def placeV (f : Cl → Bool) (cs : List Cl) (n : Nat) : List V := (plcN f cs n).map fun (i : Nat) => V.int (i : Int)
theorem placeV_succ (f : Cl → Bool) (cs : List Cl) (n : Nat) (h : f (cs.getD n .pass) = true) : placeV f cs (n + 1) = placeV f cs n ++ [V.int (n : Int)] := by
  unfold placeV
  rw [plcN_succ, if_pos h, List.map_append]
  rfl
theorem placeV_skip (f : Cl → Bool) (cs : List Cl) (n : Nat) (h : f (cs.getD n .pass) = false) : placeV f cs (n + 1) = placeV f cs n := by
  unfold placeV
  rw [plcN_succ, h, if_neg (by decide), List.append_nil]
theorem placeV_len (f : Cl → Bool) (cs : List Cl) (n : Nat) : (placeV f cs n).length ≤ n := by
  unfold placeV
  rw [List.length_map]
  exact plcN_len f cs n
theorem placeV_last (f : Cl → Bool) (cs : List Cl) (n : Nat) : (placeV f cs n = [] ∧ lastN f cs n = -1) ∨ ∃ l, placeV f cs n = l ++ [V.int (lastN f cs n)] := by
  rcases plcN_last f cs n with ⟨h1, h2⟩ | ⟨l, j, h1, h2⟩
  · exact .inl ⟨by unfold placeV; rw [h1]; rfl, h2⟩
  · exact .inr ⟨l.map fun (i : Nat) => V.int (i : Int), by unfold placeV; rw [h1, h2, List.map_append]; rfl⟩

theorem scLast : FnScope ["self", "places", "at", "call"] ["self"] (defScope sLast) := ⟨rfl, rfl, rfl, by decide +kernel, rfl, by decide +kernel, by decide +kernel⟩
theorem ok_last {f C aP aD aR : Addr} {fd : FuncData} (F : Fun K "last" "Auction.last" sLast f fd) (T : Txt K mg C aP aD aR) : FnOk P w K mg base CX0 1 f fd ["self"] (spPlace C K notPass) := by
  refine F.ok scLast (fun vs H Q E h => ?_) (fun cdv A outer s H vs Q E hr h => ?_)
  · obtain ⟨m, p, dx, lb, lc, d, xs, cs, rfl, _⟩ := h
    rfl
  · obtain ⟨m, p, dx, lb, lc, d, xs, cs, rfl, hm, h1, h2, h3, hn, k⟩ := h
    refine ⟨_, pss_cons (ps_setLc (i := 1) (own := [("at", 2), ("call", 3)]) (g := gPair K 2 3) (tt := tTest (tOp (rNeD K) (tVar 3) (tC (.ref aP)))) (te := tVar 2) rfl scLast.nd rfl rfl (sw_true rfl rfl rfl (by decide +kernel))
        (pi_enum (by rfl) T.enum (pa_cons (pe_fld (pv 0) rfl) pa_nil)) (blkOk_by (N := ["self", "places", "at", "call"]) (sc := defScope sLast) (by decide +kernel))
        (fun _ _ _ _ _ => pg_tup rfl (pgs_cons (pg_name (i := 2) scLast.nd rfl (Or.inl rfl)) (pgs_cons (pg_name (i := 3) scLast.nd rfl (Or.inl rfl)) pgs_nil)))
        (fun _ _ _ _ _ => pts_one (pt_cmpR (op_neD hr.units) (pv 3) (pe_glob (by rfl) T.mgP rfl) (nomark _)))
        (fun _ _ _ _ _ => pv 2))
      (pss_one (ps_ret (pe_ifExp (pt_cmpR op_gt (pe_callB call_len_seq (by rfl) T.len PySem.boot_len (pa_cons (pv 1) pa_nil)) pe_int (nomark _)) (pe_ix ix_list (pv 1) (pe_un un_neg pe_int) (fun _ _ => rfl)) (pe_un un_neg pe_int)))), ?_⟩
    refine ⟨_, rfl, p, C, dx, _, _, rfl, h1, T.cl, T.nC, fl_calls, lc, xs, rfl, SqL.of h2, fun D hD => ?_⟩
    refine lc_enum (xs := xs) (fun i H' => Same H H' ∧ H' D = some (.lst (placeV notPass cs i))) ⟨same_new hD, upd_same⟩ (fun i H' _ ⟨s1, _⟩ => SqL.of (s1 _ _ h2)) ?_ ?_
    · rintro i x T0 H' hx hT ⟨s1, hD'⟩
      obtain ⟨hc, hxc⟩ := h3.get' hx
      have nDT : D ≠ T0 := ne_of_none hD' hT
      have s2 : Same H (upd H' T0 (.tup [.int (i : Nat), x])) := s1.trans (same_new hT)
      have hil : i < cs.length := (List.getElem?_eq_some_iff.mp hc).1
      refine ⟨T0, _, rfl, SqT.of upd_same, rfl, _, _, rfl, _, _, rfl, rfl, rfl, _, rfl, dat m (cs.getD i .pass), dat m .pass, (hxc.keep (Same.keep s2)).dp, T.pass.dp, dat_shaped _ _, dat_shaped _ _, _, rfl, ?_⟩
      rw [dat_eqv hm, show (!decide (cs.getD i .pass = Cl.pass)) = notPass (cs.getD i .pass) by cases cs.getD i .pass <;> rfl]
      refine ite2 (fun hp => ?_) (fun hp => ?_)
      · refine ⟨_, rfl, _, by rw [upd_ne nDT]; exact hD', ?_, same_upd s2 hD, by rw [upd_same, placeV_succ _ _ _ hp]⟩
        have := placeV_len notPass cs i
        rw [sizeLine_eq]
        omega
      · exact ⟨s2, by rw [upd_ne nDT, placeV_skip _ _ _ (by simpa using hp)]; exact hD'⟩
    · rintro H' ⟨s1, hD'⟩
      rw [h3.len] at hD'
      refine ⟨_, rfl, D, _, rfl, .inl (SqL.of hD'), _, _, rfl, rfl, _, rfl, ?_⟩
      rcases placeV_last notPass cs cs.length with ⟨e1, e2⟩ | ⟨l, e1⟩
      · rw [e1]
        refine iteF ⟨_, rfl, ?_⟩
        have q := k H' s1
        unfold lastP at q
        rw [e2] at q
        exact q
      · rw [e1] at hD' ⊢
        rw [decide_eq_true (show (0 : Int) < ((l ++ [V.int (lastN notPass cs cs.length)]).length : Int) by rw [List.length_append, List.length_singleton]; omega)]
        exact iteT ⟨_, rfl, _, rfl, D, _, _, _, rfl, rfl, SqL.of hD', atI_last _ _, k H' s1⟩
theorem scLastBid : FnScope ["self", "places", "at", "call"] ["self"] (defScope sLastBid) := ⟨rfl, rfl, rfl, by decide +kernel, rfl, by decide +kernel, by decide +kernel⟩
theorem ok_last_bid {f C aP aD aR : Addr} {fd : FuncData} (F : Fun K "last_bid" "Auction.last_bid" sLastBid f fd) (T : Txt K mg C aP aD aR) : FnOk P w K mg base CX0 1 f fd ["self"] (spPlace C K isBid) := by
  refine F.ok scLastBid (fun vs H Q E h => ?_) (fun cdv A outer s H vs Q E hr h => ?_)
  · obtain ⟨m, p, dx, lb, lc, d, xs, cs, rfl, _⟩ := h
    rfl
  · obtain ⟨m, p, dx, lb, lc, d, xs, cs, rfl, hm, h1, h2, h3, hn, k⟩ := h
    refine ⟨_, pss_cons (ps_setLc (i := 1) (own := [("at", 2), ("call", 3)]) (g := gPair K 2 3) (tt := tTest (tOp rEq (tOp (rIxT K) (tVar 3) (tC (.int 0))) (tC (.str "bid")))) (te := tVar 2) rfl scLastBid.nd rfl rfl (sw_true rfl rfl rfl (by decide +kernel))
        (pi_enum (by rfl) T.enum (pa_cons (pe_fld (pv 0) rfl) pa_nil)) (blkOk_by (N := ["self", "places", "at", "call"]) (sc := defScope sLastBid) (by decide +kernel))
        (fun _ _ _ _ _ => pg_tup rfl (pgs_cons (pg_name (i := 2) scLastBid.nd rfl (Or.inl rfl)) (pgs_cons (pg_name (i := 3) scLastBid.nd rfl (Or.inl rfl)) pgs_nil)))
        (fun _ _ _ _ _ => pts_one (pt_cmpR op_eq (pe_ix ix_tup (pv 3) pe_int (fun _ _ => rfl)) pe_str (nomark _)))
        (fun _ _ _ _ _ => pv 2))
      (pss_one (ps_ret (pe_ifExp (pt_cmpR op_gt (pe_callB call_len_seq (by rfl) T.len PySem.boot_len (pa_cons (pv 1) pa_nil)) pe_int (nomark _)) (pe_ix ix_list (pv 1) (pe_un un_neg pe_int) (fun _ _ => rfl)) (pe_un un_neg pe_int)))), ?_⟩
    refine ⟨_, rfl, p, C, dx, _, _, rfl, h1, T.cl, T.nC, fl_calls, lc, xs, rfl, SqL.of h2, fun D hD => ?_⟩
    refine lc_enum (xs := xs) (fun i H' => Same H H' ∧ H' D = some (.lst (placeV isBid cs i))) ⟨same_new hD, upd_same⟩ (fun i H' _ ⟨s1, _⟩ => SqL.of (s1 _ _ h2)) ?_ ?_
    · rintro i x T0 H' hx hT ⟨s1, hD'⟩
      obtain ⟨hc, hxc⟩ := h3.get' hx
      have nDT : D ≠ T0 := ne_of_none hD' hT
      have s2 : Same H (upd H' T0 (.tup [.int (i : Nat), x])) := s1.trans (same_new hT)
      have hil : i < cs.length := (List.getElem?_eq_some_iff.mp hc).1
      obtain ⟨ta, rfl, htup⟩ := hxc.keep (Same.keep s2)
      refine ⟨T0, _, rfl, SqT.of upd_same, rfl, _, _, rfl, _, _, rfl, rfl, rfl, _, rfl, ta, _, _, _, rfl, rfl, htup.sq, atI_nat (j := 0) rfl, rfl, _, rfl, ?_⟩
      rw [name_bid]
      refine ite2 (fun hp => ?_) (fun hp => ?_)
      · refine ⟨_, rfl, _, by rw [upd_ne nDT]; exact hD', ?_, same_upd s2 hD, by rw [upd_same, placeV_succ _ _ _ hp]⟩
        have := placeV_len isBid cs i
        rw [sizeLine_eq]
        omega
      · exact ⟨s2, by rw [upd_ne nDT, placeV_skip _ _ _ (by simpa using hp)]; exact hD'⟩
    · rintro H' ⟨s1, hD'⟩
      rw [h3.len] at hD'
      refine ⟨_, rfl, D, _, rfl, .inl (SqL.of hD'), _, _, rfl, rfl, _, rfl, ?_⟩
      rcases placeV_last isBid cs cs.length with ⟨e1, e2⟩ | ⟨l, e1⟩
      · rw [e1]
        refine iteF ⟨_, rfl, ?_⟩
        have q := k H' s1
        unfold lastP at q
        rw [e2] at q
        exact q
      · rw [e1] at hD' ⊢
        rw [decide_eq_true (show (0 : Int) < ((l ++ [V.int (lastN isBid cs cs.length)]).length : Int) by rw [List.length_append, List.length_singleton]; omega)]
        exact iteT ⟨_, rfl, _, rfl, D, _, _, _, rfl, rfl, SqL.of hD', atI_last _ _, k H' s1⟩
end
end K18

namespace K18
open PySem L2

/-- all objects of an auction's program: where each def stands and what it promises -/
structure Defs (K : PySem.W.Frag) (C : Addr) where
  fS : Addr
  fP : Addr
  fT : Addr
  fC : Addr
  fL : Addr
  fB : Addr
  fO : Addr
  dS : FuncData
  dP : FuncData
  dT : FuncData
  dC : FuncData
  dL : FuncData
  dB : FuncData
  dO : FuncData
  FS : Fun K "side_of" "side_of" sSide fS dS
  FP : Fun K "player_of" "Auction.player_of" sPlayer fP dP
  FT : Fun K "turn" "Auction.turn" sTurn fT dT
  FC : Fun K "calls" "Auction.calls" sCalls fC dC
  FL : Fun K "last" "Auction.last" sLast fL dL
  FB : Fun K "last_bid" "Auction.last_bid" sLastBid fB dB
  FO : Fun K "is_over" "Auction.is_over" sOver fO dO
  bS : Binds K dS ["player"] []
  bP : Binds K dP ["self", "at"] []
  bT : Binds K dT ["self"] []
  bC : Binds K dC ["self"] []
  bL : Binds K dL ["self"] []
  bB : Binds K dB ["self"] []
  bO : Binds K dO ["self"] []
  mP : Meth K C "player_of" fP
  mT : Meth K C "turn" fT
  mC : Meth K C "calls" fC
  mL : Meth K C "last" fL
  mB : Meth K C "last_bid" fB
  mO : Meth K C "is_over" fO

section
variable {lb lc : Addr} {d : Int}
theorem no_player : (fl lb d lc).lookup ("player_of" : Str) = none := fl_no (by decide +kernel) (by decide +kernel) (by decide +kernel)
theorem no_turn : (fl lb d lc).lookup ("turn" : Str) = none := fl_no (by decide +kernel) (by decide +kernel) (by decide +kernel)
theorem no_calls : (fl lb d lc).lookup ("calls" : Str) = none := fl_no (by decide +kernel) (by decide +kernel) (by decide +kernel)
theorem no_last : (fl lb d lc).lookup ("last" : Str) = none := fl_no (by decide +kernel) (by decide +kernel) (by decide +kernel)
theorem no_last_bid : (fl lb d lc).lookup ("last_bid" : Str) = none := fl_no (by decide +kernel) (by decide +kernel) (by decide +kernel)
theorem no_over : (fl lb d lc).lookup ("is_over" : Str) = none := fl_no (by decide +kernel) (by decide +kernel) (by decide +kernel)
theorem no_legal : (fl lb d lc).lookup ("legal" : Str) = none := fl_no (by decide +kernel) (by decide +kernel) (by decide +kernel)
theorem no_call : (fl lb d lc).lookup ("call" : Str) = none := fl_no (by decide +kernel) (by decide +kernel) (by decide +kernel)
theorem no_contract : (fl lb d lc).lookup ("contract" : Str) = none := fl_no (by decide +kernel) (by decide +kernel) (by decide +kernel)
end
theorem Room.u65 {k : Nat} {A : Around} (r : Room k A) : A.units + 65 < cLine := by
  have := r.un
  omega

section
variable {P : Program} {w : World} {K : PySem.W.Frag} {mg : Str → Option Value} {base : Heap}

theorem scOver : FnScope ["self", "passes"] ["self"] (defScope sOver) := ⟨rfl, rfl, rfl, by decide +kernel, rfl, by decide +kernel, by decide +kernel⟩
theorem ok_over {C aP aD aR : Addr} (D : Defs K C) (T : Txt K mg C aP aD aR) : FnOk P w K mg base CX0 2 D.fO D.dO ["self"] (spOver C K) := by
  have GL : FnOk P w K mg base CX0 1 D.fL D.dL ["self"] (spPlace C K notPass) := ok_last D.FL T
  refine D.FO.ok scOver (fun vs H Q E h => ?_) (fun cdv A outer s H vs Q E hr h => ?_)
  · obtain ⟨m, p, dx, lb, lc, d, xs, cs, rfl, _⟩ := h
    rfl
  · obtain ⟨m, p, dx, lb, lc, d, xs, cs, rfl, hm, h1, h2, h3, hn, k⟩ := h
    refine ⟨_, pss_cons (ps_set (i := 1) scOver.nd rfl (Or.inl rfl) (pe_op op_sub (pe_op op_sub (pe_callB call_len_seq (by rfl) T.len PySem.boot_len (pa_cons (pe_fld (pv 0) rfl) pa_nil)) pe_int) (pe_meth0 (pv 0) T.cl D.mL GL hr D.bL .nil pass0)))
      (pss_one (ps_ret (pe_or (pe_cmpR op_ge (pv 1) pe_int (nomark _)) (pe_one (pe_and (pe_cmpR op_eq (pv 1) pe_int (nomark _)) (pe_one (pe_cmpR op_ge (pe_meth0 (pv 0) T.cl D.mL GL hr D.bL .nil pass0) pe_int (nomark _)))))))), ?_⟩
    refine ⟨_, rfl, p, C, dx, _, _, rfl, h1, T.cl, T.nC, fl_calls, lc, _, rfl, .inl (SqL.of h2), _, _, rfl, rfl, _, rfl, p, dx, _, rfl, h1, no_last, m, p, dx, lb, lc, d, xs, cs, rfl, hm, h1, h2, h3, hn, fun H1 s1 => ?_⟩
    refine ⟨_, _, rfl, rfl, _, rfl, _, _, rfl, rfl, _, rfl, ?_⟩
    rw [h3.len]
    have ov : ∀ b, over cs = b → ∀ H', Same H H' → Q (.bl b) H' := fun b e H' s' => by
      rw [← e]
      exact k H' s'
    refine ite2 (fun c1 => ?_) (fun c1 => ?_)
    · refine ov _ ?_ _ s1
      have c1 := of_decide_eq_true c1
      unfold over
      rw [decide_eq_true c1]
      rfl
    · have c1 : ¬ 4 ≤ (cs.length : Int) - 1 - lastP notPass cs := fun q => c1 (decide_eq_true q)
      refine ⟨_, rfl, rfl, _, rfl, ?_⟩
      refine ite2 (fun c2 => ?_) (fun c2 => ?_)
      · have c2 : (cs.length : Int) - 1 - lastP notPass cs = 3 := V.int.inj (of_decide_eq_true c2)
        refine ⟨_, rfl, p, dx, _, rfl, s1 _ _ h1, no_last, m, p, dx, lb, lc, d, xs, cs, rfl, hm, s1 _ _ h1, s1 _ _ h2, h3.keep (Same.keep s1), hn, fun H2 s2 => ?_⟩
        refine ⟨_, _, rfl, rfl, ov _ ?_ _ (s1.trans s2)⟩
        unfold over
        rw [decide_eq_false c1, decide_eq_true c2]
        rfl
      · have c2 : ¬ (cs.length : Int) - 1 - lastP notPass cs = 3 := fun q => c2 (decide_eq_true (congrArg V.int q))
        refine ov _ ?_ _ s1
        unfold over
        rw [decide_eq_false c1, decide_eq_false c2]
        rfl

/-! ### legal -/
def spLegal (C : Addr) (K : PySem.W.Frag) : Sp := fun vs H Q _ => ∃ (m B : Nat) (p lc : Addr) (d : Int) (cs : List Cl), vs = [.ref p] ∧ 0 < m ∧ AucAt C K m B H p lc d cs ∧ Sit B cs ∧ B ≤ 100 ∧
  ∀ (l : Addr) (ls : List V) (H' : Hp), H l = none → Same H H' → H' l = some (.lst ls) → CallsAt K m H' ls (legalL B cs) → Q (.ref l) H'

theorem par {d L n : Int} : (!decide (V.int ((d + L) % 4 % 2) = V.int ((d + n) % 4 % 2))) = decide ((n - L) % 2 = 1) := by
  by_cases h : (n - L) % 2 = 1
  · rw [decide_eq_true h, decide_eq_false fun q => ?_]
    · rfl
    · have := V.int.inj q
      omega
  · rw [decide_eq_false h, decide_eq_true (show V.int ((d + L) % 4 % 2) = V.int ((d + n) % 4 % 2) from congrArg V.int (by omega))]
    rfl

theorem cutV_from (xs : List V) (n : Nat) : cutV xs (some (n : Int)) none = xs.drop n := by
  unfold cutV
  rw [HT.sIx_nat, HT.sIx_none]
  by_cases h : n ≤ xs.length
  · rw [Nat.min_eq_left h]
    exact List.take_of_length_le (by rw [List.length_drop]; exact Nat.le_refl _)
  · rw [Nat.min_eq_right (by omega), List.drop_of_length_le (Nat.le_refl _), List.drop_of_length_le (by omega)]
    exact List.take_nil
theorem scLegal : FnScope ["self", "last", "found", "at", "lowest"] ["self"] (defScope sLegal) := ⟨rfl, rfl, rfl, by decide +kernel, rfl, by decide +kernel, by decide +kernel⟩
theorem ok_legal {f C aP aD aR : Addr} {fd : FuncData} (F : Fun K "legal" "Auction.legal" sLegal f fd) (D : Defs K C) (T : Txt K mg C aP aD aR) (mgS : mg "side_of" = some (.ref D.fS)) : FnOk P w K mg base CX0 3 f fd ["self"] (spLegal C K) := by
  have GL : FnOk P w K mg base CX0 1 D.fL D.dL ["self"] (spPlace C K notPass) := ok_last D.FL T
  have GB : FnOk P w K mg base CX0 1 D.fB D.dB ["self"] (spPlace C K isBid) := ok_last_bid D.FB T
  have GP : FnOk P w K mg base CX0 1 D.fP D.dP ["self", "at"] (spPlayer C) := ok_player D.FP T
  have GS : FnOk P w K mg base CX0 1 D.fS D.dS ["player"] spSide := ok_side D.FS
  have GT : FnOk P w K mg base CX0 2 D.fT D.dT ["self"] (spTurn C) := ok_turn D.FT T D.FP D.bP D.mP
  have GO : FnOk P w K mg base CX0 2 D.fO D.dO ["self"] (spOver C K) := ok_over D T
  refine F.ok scLegal (fun vs H Q E h => ?_) (fun cdv A outer s H vs Q E hr h => ?_)
  · obtain ⟨m, B, p, lc, d, cs, rfl, _⟩ := h
    rfl
  · obtain ⟨m, B, p, lc, d, cs, rfl, hm, ⟨dx, lb, bs, xs, h1, hb1, hb2, h2, h3, nbc⟩, hsit, hB, k⟩ := h
    have hr1 : Room 1 _ := hr.mono (by decide)
    have hn : cs.length ≤ 1000 := by
      have := sit_len hsit
      omega
    refine ⟨_, pss_cons (ps_if (pt_val (pe_meth0 (pv 0) T.cl D.mO GO hr D.bO .nil pass0)) (pss_one (ps_ret (pe_lst pa_nil))) pss_nil)
      (pss_cons (ps_set (i := 1) scLegal.nd rfl (Or.inl rfl) (pe_meth0 (pv 0) T.cl D.mL GL hr1 D.bL .nil pass0))
      (pss_cons (ps_set (i := 2) scLegal.nd rfl (Or.inl rfl) (pe_lst (pa_cons (pe_glob (v := .ref aP) (by rfl) T.mgP rfl) pa_nil)))
      (C8.pss_cut (ps_if (PW.pt (pw_and (pt_cmpR op_ge (pv 1) pe_int (nomark _)) (pw_and1 (pt_cmpR op_ne
            (pe_call GS hr1 (by rfl) mgS D.FS.kp D.bS .nil pass0 (pa_cons (pe_meth (pv 0) T.cl D.mP GP hr1 D.bP .nil pass0 (pa_cons (pv 1) pa_nil)) pa_nil))
            (pe_call GS hr1 (by rfl) mgS D.FS.kp D.bS .nil pass0 (pa_cons (pe_meth0 (pv 0) T.cl D.mT GT hr D.bT .nil pass0) pa_nil)) (nomark _)))))
          (C8.pss_cut (ps_if (pt_cmpR op_eq (pe_ix ix_tup (pe_ix ix_list (pe_fld (pv 0) rfl) (pv 1) (fun _ _ => rfl)) pe_int (fun _ _ => rfl)) pe_str (nomark _))
              (pss_one (ps_expr (pe_bm PySem.F.plainAttrs_list PySem.F.slot_list_append PySem.F.type_list_append mt_append (pv 2) (pa_cons (pe_glob (v := .ref aD) (by rfl) T.mgD rfl) pa_nil)))) pss_nil)
            (pss_one (ps_if (pt_cmpR (op_eqD hr.units) (pe_ix ix_list (pe_fld (pv 0) rfl) (pv 1) (fun _ _ => rfl)) (pe_glob (v := .ref aD) (by rfl) T.mgD rfl) (nomark _))
              (pss_one (ps_expr (pe_bm PySem.F.plainAttrs_list PySem.F.slot_list_append PySem.F.type_list_append mt_append (pv 2) (pa_cons (pe_glob (v := .ref aR) (by rfl) T.mgR rfl) pa_nil)))) pss_nil)))
          pss_nil)
      (pss_cons (ps_set (i := 3) scLegal.nd rfl (Or.inl rfl) (pe_meth0 (pv 0) T.cl D.mB GB hr1 D.bB .nil pass0))
      (pss_cons (ps_set (i := 4) scLegal.nd rfl (Or.inl rfl) (pe_ifExp (pt_cmpR op_lt (pv 3) pe_int (nomark _)) pe_int
          (pe_op op_add (pe_bm PySem.F.plainAttrs_list PySem.F.slot_list_index PySem.F.type_list_index (mt_indexD (Room.u65 hr)) (pe_fld (pv 0) rfl) (pa_cons (pe_ix ix_list (pe_fld (pv 0) rfl) (pv 3) (fun _ _ => rfl)) pa_nil)) pe_int)))
      (pss_one (ps_ret (pe_op op_cat (pv 2) (pe_slice sl_list (pe_fld (pv 0) rfl) (po_some (pv 4)) po_none))))))))), ?_⟩
    -- if self.is_over(): return []
    refine ⟨_, rfl, p, dx, _, rfl, h1, no_over, m, p, dx, lb, lc, d, xs, cs, rfl, hm, h1, h2, h3, hn, fun H1 s1 => ⟨_, rfl, ?_⟩⟩
    refine ite2 (fun hov => ?_) (fun hov => ?_)
    · refine ⟨Nat.zero_le _, fun l hl => ?_⟩
      exact k l [] _ (s1.free hl) (s1.trans (same_new hl)) upd_same (by rw [legalL_nil.mpr hov]; exact .nil)
    -- last = self.last(); found = [PASS]
    refine ⟨_, rfl, p, dx, _, rfl, s1 _ _ h1, no_last, m, p, dx, lb, lc, d, xs, cs, rfl, hm, s1 _ _ h1, s1 _ _ h2, h3.keep (Same.keep s1), hn, fun H2 s2 => ?_⟩
    have s02 := s1.trans s2
    refine ⟨(by show 1 ≤ sizeLine; decide), fun lf hlf => ?_⟩
    have hlf0 : H lf = none := s02.free hlf
    have s03 : Same H (upd H2 lf (.lst [.ref aP])) := same_upd s02 hlf0
    have h13 := s03 _ _ h1
    have h23 := s03 _ _ h2
    have h33 := h3.keep (Same.keep s03)
    refine ⟨fun σ' H' => ∃ fs, σ' = [some (.ref p), some (.int (lastP notPass cs)), some (.ref lf), none, none] ∧ Same H H' ∧ H' lf = some (.lst fs) ∧ CallsAt K m H' fs (.pass :: extra cs), ?_, ?_⟩
    · -- the double, the redouble
      refine ⟨_, rfl, _, _, rfl, rfl, _, rfl, ?_⟩
      by_cases hL : 0 ≤ lastP notPass cs
      · rw [decide_eq_true hL]
        refine iteT ⟨_, rfl, p, dx, _, rfl, h13, no_player, _, rfl, p, dx, lb, lc, d, _, rfl, h13, _, rfl, _, rfl, p, dx, _, rfl, h13, no_turn, p, dx, lb, lc, d, xs, rfl, h13, h23, _, rfl, rfl, _, rfl, ?_⟩
        rw [h3.len, par]
        by_cases hpar : ((cs.length : Int) - lastP notPass cs) % 2 = 1
        · rw [decide_eq_true hpar]
          refine iteT ?_
          have hlt : lastP notPass cs < (cs.length : Int) := lastN_lt notPass cs cs.length
          obtain ⟨v, hv, hcv⟩ := h3.get (i := (lastP notPass cs).toNat) (c := lastC cs) (by
            unfold lastC
            rw [List.getD_eq_getElem?_getD, List.getElem?_eq_getElem (by omega)]
            rfl)
          have ev : atI xs (lastP notPass cs) = some v := at_of (j := (lastP notPass cs).toNat) (by omega) hv
          have hx : extra cs = (if isBid (lastC cs) = true then [Cl.dbl] else []) ++ (if lastC cs = .dbl then [Cl.rdbl] else []) := by
            unfold extra
            rw [if_pos ⟨hL, hpar⟩]
          refine ⟨fun σ' H' => ∃ fs, σ' = [some (.ref p), some (.int (lastP notPass cs)), some (.ref lf), none, none] ∧ Same H H' ∧ H' lf = some (.lst fs) ∧ CallsAt K m H' fs (.pass :: if isBid (lastC cs) = true then [Cl.dbl] else []), ?_, ?_⟩
          · obtain ⟨ta, rfl, htup⟩ := hcv.keep (Same.keep s03)
            refine ⟨_, rfl, p, C, dx, _, _, rfl, h13, T.cl, T.nC, fl_calls, _, rfl, lc, _, _, _, rfl, rfl, SqL.of h23, ev, ta, _, _, _, rfl, rfl, htup.sq, atI_nat (j := 0) rfl, rfl, _, rfl, ?_⟩
            rw [name_bid]
            refine ite2 (fun hb => ?_) (fun hb => ?_)
            · refine ⟨_, rfl, .inl ⟨rfl, _, SqL.of upd_same⟩, lf, _, _, rfl, rfl, upd_same, (by show 1 < sizeLine; decide), ?_⟩
              have s04 := same_upd (o := .lst ([.ref aP] ++ [.ref aD])) s03 hlf0
              refine ⟨_, rfl, s04, upd_same, ?_⟩
              rw [if_pos hb]
              exact (CallsAt.one T.pass).snoc T.dbl
            · refine ⟨_, rfl, s03, upd_same, ?_⟩
              rw [if_neg hb]
              exact .one T.pass
          · rintro σ' H' ⟨fs, rfl, s', hf, hcf⟩
            refine ⟨_, rfl, p, C, dx, _, _, rfl, s' _ _ h1, T.cl, T.nC, fl_calls, _, rfl, lc, _, _, _, rfl, rfl, SqL.of (s' _ _ h2), ev, dat m (lastC cs), dat m .dbl, (hcv.keep (Same.keep s')).dp, T.dbl.dp, dat_shaped _ _, dat_shaped _ _, _, rfl, ?_⟩
            rw [dat_eqv hm]
            refine ite2 (fun hb => ?_) (fun hb => ?_)
            · refine ⟨_, rfl, .inl ⟨rfl, _, SqL.of hf⟩, lf, _, _, rfl, rfl, hf, ?_, ?_⟩
              · rw [hcf.len, List.length_cons, sizeLine_eq]
                split <;> simp
              have s04 := same_upd (o := .lst (fs ++ [.ref aR])) s' hlf0
              refine ⟨_, rfl, s04, upd_same, ?_⟩
              rw [hx, if_pos (of_decide_eq_true hb), ← List.cons_append]
              exact (hcf.keep (keep_but hf (fun _ q => by cases q) fun b o e n => by rw [upd_ne n]; exact e)).snoc T.rdbl
            · refine ⟨_, rfl, s', hf, ?_⟩
              rw [hx, if_neg (fun q => hb (decide_eq_true q)), List.append_nil]
              exact hcf
        · rw [decide_eq_false hpar]
          refine iteF ⟨_, rfl, s03, upd_same, ?_⟩
          unfold extra
          rw [if_neg fun q => hpar q.2]
          exact .one T.pass
      · rw [decide_eq_false hL]
        refine iteF ⟨_, rfl, s03, upd_same, ?_⟩
        unfold extra
        rw [if_neg fun q => hL q.1]
        exact .one T.pass
    · -- at = self.last_bid(); lowest; found + self._bids[lowest:]
      rintro σ' H' ⟨fs, rfl, s', hf, hcf⟩
      refine ⟨_, rfl, p, dx, _, rfl, s' _ _ h1, no_last_bid, m, p, dx, lb, lc, d, xs, cs, rfl, hm, s' _ _ h1, s' _ _ h2, h3.keep (Same.keep s'), hn, fun H4 s4 => ?_⟩
      have s04 := s'.trans s4
      have hf4 := s4 _ _ hf
      have hcf4 := hcf.keep (Same.keep s4)
      -- the end, from the value of lowest
      have fin : ∀ (n : Nat), n = low cs → (tRet (tOp rCat (tVar 2) (tSl (rSlL K) (tFld K (tVar 0) "_bids") (tPart (tVar 4)) tNoPart))) { nx := fun _ H' => Q .non H', rt := Q } [some (.ref p), some (.int (lastP notPass cs)), some (.ref lf), some (.int (lastP isBid cs)), some (.int (n : Int))] H4 := by
        rintro n rfl
        refine ⟨_, rfl, _, rfl, p, C, dx, _, _, rfl, s04 _ _ h1, T.cl, T.nB, fl_bids, _, rfl, _, rfl, lb, bs, rfl, SqL.of (s04 _ _ hb1), fun q hq => ?_⟩
        have nq : lf ≠ q := ne_of_none hf4 hq
        refine ⟨lf, q, _, _, rfl, rfl, by rw [upd_ne nq]; exact hf4, upd_same, ?_, fun l hl => ?_⟩
        · rw [cutV_from, List.length_drop, hcf4.len, hb2.len, bidsN_len, List.length_cons, sizeLine_eq]
          have := extra_len cs
          omega
        · rw [cutV_from]
          have s5 : Same H (upd H4 q (.lst (cutV bs (some ((low cs : Nat) : Int)) none))) := s04.trans (same_new hq)
          rw [cutV_from] at s5 hl
          have s6 := s5.trans (same_new (o := .lst (fs ++ bs.drop (low cs))) hl)
          refine k l _ _ (s5.free hl) s6 upd_same ?_
          unfold legalL
          rw [if_neg hov]
          exact (hcf.append ((hb2.keep (Same.keep s')).drop (low cs))).keep (Keep.trans (Same.keep s4) (Keep.trans (Same.keep (same_new hq)) (Same.keep (same_new hl))))
      refine ⟨_, rfl, _, _, rfl, rfl, _, rfl, ?_⟩
      refine ite2 (fun hb => ?_) (fun hb => ?_)
      · refine fin 0 ?_
        unfold low
        rw [if_pos (of_decide_eq_true hb)]
      · have hb : ¬ lastP isBid cs < 0 := fun q => hb (decide_eq_true q)
        rcases hsit with ⟨e, _⟩ | ⟨kk, b, L, hkB, eb, eL, hbk, _⟩
        · rw [e] at hb
          exact absurd (by decide) hb
        obtain ⟨v, hv, hcv⟩ := h3.get hbk
        have ev : atI xs (lastP isBid cs) = some v := at_of (j := b) eb hv
        have elow : kk + 1 = low cs := by
          unfold low
          rw [eb, if_neg (by omega), show ((b : Int)).toNat = b from rfl, getD_of hbk]
          rfl
        refine ⟨_, rfl, p, C, dx, _, _, rfl, s04 _ _ h1, T.cl, T.nB, fl_bids, .inl ⟨rfl, _, SqL.of (s04 _ _ hb1)⟩, _, rfl, p, C, dx, _, _, rfl, s04 _ _ h1, T.cl, T.nC, fl_calls, _, rfl, lc, _, _, _, rfl, rfl, SqL.of (s04 _ _ h2), ev,
          lb, v, dat m (.bid kk), (bidsN B).map (dat m), kk, dat m (.bid kk), rfl, rfl, .lst (SqL.of (s04 _ _ hb1)) (hb2.keep (Same.keep s04)).dps, (hcv.keep (Same.keep s04)).dp, dats_shaped _ _, dat_shaped _ _,
          by rw [List.getElem?_map, bidsN_get hkB]; rfl, by rw [dat_eqv hm]; exact decide_eq_true rfl, fun j z hj hz => ?_, _, _, rfl, rfl, ?_⟩
        · rw [List.getElem?_map, bidsN_get (by omega)] at hz
          rw [← Option.some.inj hz, dat_eqv hm]
          exact decide_eq_false fun q => by
            have := Cl.bid.inj q
            omega
        · exact fin (kk + 1) elow
end
end K18

namespace K18
open PySem L2
/-- the number of bids of s suits and size z -/
def bidsOf (s z : Nat) : Nat := (z - z / 2) * (s + 1)
def spBids (K : PySem.W.Frag) : Sp := fun vs H Q _ => ∃ (s z : Nat), vs = [.int (s : Int), .int (z : Int)] ∧ s ≤ 10 ∧ z ≤ 10 ∧
  ∀ (l : Addr) (bs : List V) (H' : Hp), H l = none → Same H H' → H' l = some (.lst bs) → CallsAt K (s + 1) H' bs (bidsN (bidsOf s z)) → Q (.ref l) H'
def spInit (C : Addr) (K : PySem.W.Frag) : Sp := fun vs H Q _ => ∃ (p dx : Addr) (s z : Nat) (d : Int), vs = [.ref p, .int (s : Int), .int (z : Int), .int d] ∧ s ≤ 10 ∧ z ≤ 10 ∧ H p = some (.ins C dx []) ∧
  ∀ (lc : Addr) (H' : Hp), H lc = none → AucAt C K (s + 1) (bidsOf s z) H' p lc d [] → (∀ b o, H b = some o → b ≠ p → H' b = some o) → (∀ lb dx, H' p = some (.ins C dx (fl lb d lc)) → H lb = none) → Q .non H'
section
variable {P : Program} {w : World} {K : PySem.W.Frag} {mg : Str → Option Value} {base : Heap}
theorem bid_tup {mm i j : Nat} (hj : j < mm) : ([.str "bid", .int ((1 : Int) + (i : Int)), .int ((0 : Int) + (j : Int))] : List V) = tupV mm (.bid (i * mm + j)) := by
  have h0 : 0 < mm := by omega
  have e1 : (i * mm + j) / mm = i := by
    rw [Nat.mul_comm, Nat.mul_add_div h0, Nat.div_eq_of_lt hj, Nat.add_zero]
  have e2 : (i * mm + j) % mm = j := by
    rw [Nat.mul_comm, Nat.mul_add_mod, Nat.mod_eq_of_lt hj]
  show _ = [V.str "bid", V.int (((i * mm + j) / mm + 1 : Nat) : Int), V.int (((i * mm + j) % mm : Nat) : Int)]
  rw [e1, e2]
  rw [show ((i + 1 : Nat) : Int) = (1 : Int) + (i : Int) by omega, show ((0 : Int) + (j : Int)) = (j : Int) by omega]

theorem scBids : FnScope ["suits", "size", "top", "level", "strain"] ["suits", "size"] (defScope sBids) := ⟨rfl, rfl, rfl, by decide +kernel, rfl, by decide +kernel, by decide +kernel⟩
theorem ok_bids {f C aP aD aR : Addr} {fd : FuncData} (F : Fun K "bids_of" "bids_of" sBids f fd) (T : Txt K mg C aP aD aR) : FnOk P w K mg base CX0 1 f fd ["suits", "size"] (spBids K) := by
  refine F.ok scBids (fun vs H Q E h => ?_) (fun cdv A outer s H vs Q E hr h => ?_)
  · obtain ⟨s, z, rfl, _⟩ := h
    rfl
  · obtain ⟨s', z, rfl, hs, hz, k⟩ := h
    refine ⟨_, pss_cons (ps_set (i := 2) scBids.nd rfl (Or.inl rfl) (pe_op op_sub (pv 1) (pe_op op_fdiv (pv 1) pe_int)))
      (pss_one (ps_ret (pe_lc2 (own := [("level", 3), ("strain", 4)]) (vs1 := [4]) (g := gName 3) (tt := tYes) (wi1 := iRng1 (tCons (tOp (rI0 fun i j => .int (i + j)) (tVar 0) (tC (.int 1))) tNil)) (g1 := gName 4) (tt1 := tYes)
        (te := tTup (tCons (tC (.str "bid")) (tCons (tVar 3) (tCons (tVar 4) tNil)))) rfl scBids.nd
        (pi_range2 (by rfl) T.range (pa_cons pe_int (pa_cons (pe_op op_add (pv 2) pe_int) pa_nil)))
        (blkOk_by (N := ["suits", "size", "top", "level", "strain"]) (sc := defScope sBids) (by decide +kernel)) (by decide)
        (fun _ _ _ _ _ => pg_name (i := 3) scBids.nd rfl (Or.inl rfl)) (fun _ _ _ _ _ => pts_nil)
        (fun _ _ _ _ _ => pi_range1 (by rfl) T.range (pa_cons (pe_op op_add (pv 0) pe_int) pa_nil))
        (fun _ _ _ _ _ => pg_name (i := 4) scBids.nd rfl (Or.inl rfl)) (fun _ _ _ _ _ => pts_nil)
        (fun _ _ _ _ _ => pe_tup (pa_cons pe_str (pa_cons (pv 3) (pa_cons (pv 4) pa_nil))))))), ?_⟩
    refine ⟨_, rfl, _, rfl, _, _, rfl, rfl, ⟨by decide, by decide⟩, _, _, rfl, rfl, _, rfl, _, _, rfl, rfl, _, _, rfl, ⟨by decide, by decide, by omega, by omega⟩, fun D hD => ?_⟩
    have et : ((z : Int) - (z : Int) / 2 + 1 - 1).toNat = z - z / 2 := by omega
    rw [et]
    generalize hmm : s' + 1 = mm at k
    refine ⟨fun i m H' => m = (z - z / 2) - i ∧ i ≤ z - z / 2 ∧ Same H H' ∧ ∃ vs, H' D = some (.lst vs) ∧ CallsAt K mm H' vs (bidsN (i * mm)), ⟨_, rfl, Nat.zero_le _, same_new hD, [], upd_same, by rw [Nat.zero_mul]; exact .nil⟩, ?_⟩
    rintro i n H1 ⟨rfl, hi, s1, vs, hD1, hvs⟩
    by_cases hlt : i < z - z / 2
    · refine .inr ⟨hlt, fun H' => Same H H' ∧ ∃ vs, H' D = some (.lst vs) ∧ CallsAt K mm H' vs (bidsN ((i + 1) * mm)), fun H' p' => ⟨_, ?_, rfl, hlt, p'⟩, fun x H' y => ?_⟩
      · omega
      obtain ⟨rfl, rfl⟩ := y
      refine ⟨rfl, ?_⟩
      unfold tYes
      refine iteT ⟨_, rfl, _, _, rfl, rfl, _, rfl, by omega, by omega, ?_⟩
      rw [show ((s' : Int) + 1).toNat = mm by omega]
      refine ⟨fun j n H' => n = mm - j ∧ j ≤ mm ∧ Same H H' ∧ ∃ vs, H' D = some (.lst vs) ∧ CallsAt K mm H' vs (bidsN (i * mm + j)), ⟨_, rfl, Nat.zero_le _, s1, vs, hD1, hvs⟩, ?_⟩
      rintro j n H2 ⟨rfl, hj, s2, ws, hD2, hws⟩
      by_cases hjt : j < mm
      · refine .inr ⟨hjt, fun H' => Same H H' ∧ ∃ vs, H' D = some (.lst vs) ∧ CallsAt K mm H' vs (bidsN (i * mm + (j + 1))), fun H' p' => ⟨_, ?_, rfl, hjt, p'⟩, fun x H' y => ?_⟩
        · omega
        obtain ⟨rfl, rfl⟩ := y
        refine ⟨rfl, ?_⟩
        refine iteT ⟨_, rfl, _, rfl, (by show 3 ≤ sizeLine; decide), fun t ht => ?_⟩
        have nDt : D ≠ t := ne_of_none hD2 ht
        have s3 := s2.trans (same_new (o := .tup [.str "bid", .int ((1 : Int) + (i : Int)), .int ((0 : Int) + (j : Int))]) ht)
        refine ⟨ws, by rw [upd_ne nDt]; exact hD2, ?_, same_upd s3 hD, _, upd_same, ?_⟩
        · rw [hws.len, bidsN_len, sizeLine_eq]
          have h1 : i * mm ≤ 10 * 11 := Nat.mul_le_mul (by omega) (by omega)
          omega
        · rw [← Nat.add_assoc, bidsN_succ]
          have k4 : Keep H' (upd (upd H' t (.tup [.str "bid", .int ((1 : Int) + (i : Int)), .int ((0 : Int) + (j : Int))])) D (.lst (ws ++ [.ref t]))) :=
            Keep.trans (Same.keep (same_new (o := .tup [.str "bid", .int ((1 : Int) + (i : Int)), .int ((0 : Int) + (j : Int))]) ht)) (keep_but (p := D) (o := .lst ws) (by rw [upd_ne nDt]; exact hD2) (fun _ q => by cases q) fun b o e n => by rw [upd_ne n]; exact e)
          refine (hws.keep k4).snoc ⟨t, rfl, .inl ?_⟩
          rw [upd_ne nDt.symm, upd_same, bid_tup hjt]
      · have ej : j = mm := by omega
        subst ej
        refine .inl ⟨Nat.le_refl _, s2, ws, hD2, ?_⟩
        rw [Nat.succ_mul]
        exact hws
    · have ei : i = z - z / 2 := by omega
      subst ei
      refine .inl ⟨Nat.le_refl _, k D vs H1 hD s1 hD1 ?_⟩
      unfold bidsOf
      rw [hmm]
      exact hvs

theorem scInit : FnScope ["self", "suits", "size", "dealer"] ["self", "suits", "size", "dealer"] (defScope sInit) := ⟨rfl, rfl, rfl, by decide +kernel, rfl, by decide +kernel, by decide +kernel⟩
theorem ok_init {f fB C aP aD aR : Addr} {fd fdB : FuncData} (F : Fun K "__init__" "Auction.__init__" sInit f fd) (T : Txt K mg C aP aD aR) (FB : Fun K "bids_of" "bids_of" sBids fB fdB) (bB : Binds K fdB ["suits", "size"] []) (mgB : mg "bids_of" = some (.ref fB)) :
    FnOk P w K mg base CX0 2 f fd ["self", "suits", "size", "dealer"] (spInit C K) := by
  have GB : FnOk P w K mg base CX0 1 fB fdB ["suits", "size"] (spBids K) := ok_bids FB T
  refine F.ok scInit (fun vs H Q E h => ?_) (fun cdv A outer s H vs Q E hr h => ?_)
  · obtain ⟨p, dx, s, z, d, rfl, _⟩ := h
    rfl
  · obtain ⟨p, dx, s', z, d, rfl, hs, hz, hp, k⟩ := h
    refine ⟨_, pss_cons (ps_fld (pv 0) (pe_call GB hr (by rfl) mgB FB.kp bB .nil pass0 (pa_cons (pv 1) (pa_cons (pv 2) pa_nil))) rfl)
      (pss_cons (ps_fld (pv 0) (pv 3) rfl) (pss_one (ps_fld (pv 0) (pe_lst pa_nil) rfl))), ?_⟩
    refine ⟨_, rfl, _, rfl, s', z, rfl, hs, hz, fun lb bs H1 nlb s1 hlb hbs => ?_⟩
    have hp1 := s1 _ _ hp
    have npb : p ≠ lb := ne_of_none hp nlb
    refine ⟨_, rfl, p, C, dx, [], rfl, hp1, T.cl, T.nB, (by show 0 < 1000; decide), _, rfl, _, rfl, p, C, dx, _, rfl, upd_same, T.cl, T.nD, (by show 1 < 1000; decide), Nat.zero_le _, fun lc hlc => ?_⟩
    have npc : p ≠ lc := fun q => by
      rw [q, upd_same] at hlc
      cases hlc
    have hlc1 : H1 lc = none := by
      rw [upd_ne npc.symm, upd_ne npc.symm] at hlc
      exact hlc
    have nbc : lb ≠ lc := ne_of_none hlb hlc1
    have ins_ne : ∀ (xs : List V), HO.lst xs ≠ HO.ins C dx [] := fun _ q => by cases q
    refine ⟨_, rfl, p, C, dx, _, rfl, Eq.trans (upd_ne npc) upd_same, T.cl, T.nC, ?_, ?_⟩
    · show 2 < 1000
      decide
    · refine k lc _ (s1.free hlc1) ⟨dx, lb, bs, [], upd_same, ?_, ?_, ?_, .nil, nbc⟩ (fun b o e hb => ?_) fun lb' dx' e => ?_
      · rw [upd_ne npb.symm, upd_ne nbc, upd_ne npb.symm, upd_ne npb.symm]
        exact hlb
      · refine hbs.keep fun a xs e => ?_
        have na : a ≠ p := ne_of e hp1 fun q => by cases q
        rw [upd_ne na, upd_ne (ne_of_none e hlc1), upd_ne na, upd_ne na]
        exact e
      · rw [upd_ne npc.symm, upd_same]
      · rw [upd_ne hb, upd_ne (ne_of_none (s1 _ _ e) hlc1), upd_ne hb, upd_ne hb]
        exact s1 _ _ e
      · rw [upd_same] at e
        have e2 := congrArg (fun o => match o with | some (HO.ins _ _ fs) => fs.lookup ("_bids" : Str) | _ => none) e
        have e3 : (fl lb d lc).lookup ("_bids" : Str) = (fl lb' d lc).lookup ("_bids" : Str) := e2
        rw [fl_bids, fl_bids] at e3
        cases e3
        exact nlb
end
end K18

namespace K18
open PySem L2
def spCall (C : Addr) (K : PySem.W.Frag) : Sp := fun vs H Q _ => ∃ (m B : Nat) (p lc : Addr) (d : Int) (cs : List Cl) (v : V) (c : Cl), vs = [.ref p, v] ∧ 0 < m ∧ AucAt C K m B H p lc d cs ∧ Sit B cs ∧ B ≤ 100 ∧ CallAt K m H v c ∧ c ∈ legalL B cs ∧
  ∀ H', AucAt C K m B H' p lc d (cs ++ [c]) → (∀ b o, H b = some o → b ≠ lc → H' b = some o) → Q .non H'
def spContract (C : Addr) (K : PySem.W.Frag) : Sp := fun vs H Q _ => ∃ (m B : Nat) (p lc : Addr) (d : Int) (cs : List Cl), vs = [.ref p] ∧ 0 < m ∧ AucAt C K m B H p lc d cs ∧ Sit B cs ∧ B ≤ 100 ∧ over cs = true ∧
  (contr m d cs = none → ∀ H', Same H H' → Q .non H') ∧ ∀ xs, contr m d cs = some xs → ∀ (t : Addr) (H' : Hp), H t = none → Same H H' → H' t = some (.tup (xs.map V.int)) → Q (.ref t) H'
section
variable {P : Program} {w : World} {K : PySem.W.Frag} {mg : Str → Option Value} {base : Heap}

theorem scCall : FnScope ["self", "call"] ["self", "call"] (defScope sCall) := ⟨rfl, rfl, rfl, by decide +kernel, rfl, by decide +kernel, by decide +kernel⟩
theorem any_dat {m : Nat} (hm : 0 < m) {c : Cl} {ls : List Cl} (h : c ∈ ls) : (!(ls.map (dat m)).any fun z => PyData.eqv z (dat m c)) = false := by
  rw [Bool.not_eq_false', List.any_eq_true]
  exact ⟨dat m c, List.mem_map.mpr ⟨c, h, rfl⟩, by rw [dat_eqv hm]; exact decide_eq_true rfl⟩
theorem ok_call {f fG C aP aD aR : Addr} {fd fdG : FuncData} (F : Fun K "call" "Auction.call" sCall f fd) (D : Defs K C) (T : Txt K mg C aP aD aR) (mgS : mg "side_of" = some (.ref D.fS))
    (FG : Fun K "legal" "Auction.legal" sLegal fG fdG) (bG : Binds K fdG ["self"] []) (mG : Meth K C "legal" fG) : FnOk P w K mg base CX0 4 f fd ["self", "call"] (spCall C K) := by
  have GO : FnOk P w K mg base CX0 2 D.fO D.dO ["self"] (spOver C K) := ok_over D T
  have GG : FnOk P w K mg base CX0 3 fG fdG ["self"] (spLegal C K) := ok_legal FG D T mgS
  refine F.ok scCall (fun vs H Q E h => ?_) (fun cdv A outer s H vs Q E hr h => ?_)
  · obtain ⟨m, B, p, lc, d, cs, v, c, rfl, _⟩ := h
    rfl
  · obtain ⟨m, B, p, lc, d, cs, v, c, rfl, hm, ha, hsit, hB, hv, hc, k⟩ := h
    have hr2 : Room 2 _ := hr.mono (by decide)
    obtain ⟨dx, lb, bs, xs, h1, hb1, hb2, h2, h3, nbc⟩ := id ha
    have hn : cs.length ≤ 1000 := by
      have := sit_len hsit
      omega
    have hov : over cs = false := by
      cases e : over cs with
      | false => rfl
      | true =>
        rw [legalL_nil.mpr e] at hc
        cases hc
    refine ⟨_, pss_cons (ps_if (pt_val (pe_meth0 (pv 0) T.cl D.mO GO hr2 D.bO .nil pass0)) pss_never pss_nil)
      (pss_cons (ps_if (pt_cmpR (op_notInD (Room.u65 hr)) (pv 1) (pe_meth0 (pv 0) T.cl mG GG hr bG .nil pass0) (by rfl)) pss_never pss_nil)
      (pss_one (ps_expr (pe_bm PySem.F.plainAttrs_list PySem.F.slot_list_append PySem.F.type_list_append mt_append (pe_fld (pv 0) rfl) (pa_cons (pv 1) pa_nil))))), ?_⟩
    refine ⟨_, rfl, p, dx, _, rfl, h1, no_over, m, p, dx, lb, lc, d, xs, cs, rfl, hm, h1, h2, h3, hn, fun H1 s1 => ⟨_, rfl, ?_⟩⟩
    rw [hov]
    refine iteF ⟨_, rfl, _, rfl, p, dx, _, rfl, s1 _ _ h1, no_legal, m, B, p, lc, d, cs, rfl, hm, ha.same s1, hsit, hB, fun l ls H2 nl s2 hl hls => ?_⟩
    have s02 := s1.trans s2
    refine ⟨dat m c, (legalL B cs).map (dat m), (hv.keep (Same.keep s02)).dp, .lst (SqL.of hl) hls.dps, dat_shaped _ _, dats_shaped _ _, _, rfl, ?_⟩
    rw [any_dat hm hc]
    refine iteF ⟨_, rfl, p, C, dx, _, _, rfl, s02 _ _ h1, T.cl, T.nC, fl_calls, .inl ⟨rfl, _, SqL.of (s02 _ _ h2)⟩, _, rfl, lc, _, _, rfl, rfl, s02 _ _ h2, ?_, ?_⟩
    · rw [h3.len, sizeLine_eq]
      omega
    · have kp : Keep H (upd H2 lc (.lst (xs ++ [v]))) := keep_but h2 (fun _ q => by cases q) fun b o e n => by rw [upd_ne n]; exact s02 _ _ e
      refine k _ ⟨dx, lb, bs, xs ++ [v], ?_, ?_, hb2.keep kp, upd_same, (h3.keep kp).snoc (hv.keep kp), nbc⟩ fun b o e n => by rw [upd_ne n]; exact s02 _ _ e
      · rw [upd_ne (ne_of h1 h2 fun q => by cases q)]
        exact s02 _ _ h1
      · rw [upd_ne nbc]
        exact s02 _ _ hb1

/-! ### contract -/
def tbl : List (Key × V) := [(.inr "bid", .int 0), (.inr "double", .int 1), (.inr "redouble", .int 2)]
theorem tbl_at (c : Cl) (h : notPass c = true) : some (V.int (code c)) = valV (mergeK [] tbl) (Sum.inr (nameOf c) : Key) := by
  cases c with
  | pass => cases h
  | dbl => show some (V.int 1) = valV (mergeK [] tbl) (Sum.inr "double" : Key); decide +kernel
  | rdbl => show some (V.int 2) = valV (mergeK [] tbl) (Sum.inr "redouble" : Key); decide +kernel
  | bid k => show some (V.int 0) = valV (mergeK [] tbl) (Sum.inr "bid" : Key); decide +kernel
theorem side_eq {d i b : Int} : decide (V.int ((d + i) % 4 % 2) = V.int ((d + b) % 4 % 2)) = decide ((b - i) % 2 = 0) := by
  by_cases h : (b - i) % 2 = 0
  · rw [decide_eq_true h]
    exact decide_eq_true (congrArg V.int (by omega))
  · rw [decide_eq_false h]
    exact decide_eq_false fun q => by
      have := V.int.inj q
      omega
theorem nat_eq {i j : Nat} : decide (V.int (i : Int) = V.int (j : Int)) = decide (i = j) := by
  by_cases h : i = j
  · subst h
    simp
  · rw [decide_eq_false h]
    exact decide_eq_false fun q => by
      have := V.int.inj q
      omega
theorem scContract : FnScope ["self", "at", "_", "level", "strain", "doubled", "side", "place", "call"] ["self"] (defScope sContract) := ⟨rfl, rfl, rfl, by decide +kernel, rfl, by decide +kernel, by decide +kernel⟩
theorem ok_contract {f C aP aD aR : Addr} {fd : FuncData} (F : Fun K "contract" "Auction.contract" sContract f fd) (D : Defs K C) (T : Txt K mg C aP aD aR) (mgS : mg "side_of" = some (.ref D.fS)) : FnOk P w K mg base CX0 3 f fd ["self"] (spContract C K) := by
  have GL : FnOk P w K mg base CX0 1 D.fL D.dL ["self"] (spPlace C K notPass) := ok_last D.FL T
  have GB : FnOk P w K mg base CX0 1 D.fB D.dB ["self"] (spPlace C K isBid) := ok_last_bid D.FB T
  have GP : FnOk P w K mg base CX0 1 D.fP D.dP ["self", "at"] (spPlayer C) := ok_player D.FP T
  have GS : FnOk P w K mg base CX0 1 D.fS D.dS ["player"] spSide := ok_side D.FS
  have GO : FnOk P w K mg base CX0 2 D.fO D.dO ["self"] (spOver C K) := ok_over D T
  refine F.ok scContract (fun vs H Q E h => ?_) (fun cdv A outer s H vs Q E hr h => ?_)
  · obtain ⟨m, B, p, lc, d, cs, rfl, _⟩ := h
    rfl
  · obtain ⟨m, B, p, lc, d, cs, rfl, hm, ⟨dx, lb, bs, xs, h1, hb1, hb2, h2, h3, nbc⟩, hsit, hB, hov, k0, k1⟩ := h
    have hr1 : Room 1 _ := hr.mono (by decide)
    have hn : cs.length ≤ 1000 := by
      have := sit_len hsit
      omega
    refine ⟨_, pss_cons (ps_if (pt_not (pt_val (pe_meth0 (pv 0) T.cl D.mO GO hr D.bO .nil pass0))) pss_never pss_nil)
      (pss_cons (ps_set (i := 1) scContract.nd rfl (Or.inl rfl) (pe_meth0 (pv 0) T.cl D.mB GB hr1 D.bB .nil pass0))
      (pss_cons (ps_if (pt_cmpR op_lt (pv 1) pe_int (nomark _)) (pss_one (ps_ret pe_non)) pss_nil)
      (pss_cons (ps_asg (pe_ix ix_list (pe_fld (pv 0) rfl) (pv 1) (fun _ _ => rfl)) (pg_tup rfl (pgs_cons (pg_name (i := 2) scContract.nd rfl (Or.inl rfl)) (pgs_cons (pg_name (i := 3) scContract.nd rfl (Or.inl rfl)) (pgs_cons (pg_name (i := 4) scContract.nd rfl (Or.inl rfl)) pgs_nil)))))
      (pss_cons (ps_set (i := 5) scContract.nd rfl (Or.inl rfl) (pe_dget (hu_of hr) (pe_disp (pps_cons pe_str pe_int (pps_cons pe_str pe_int (pps_cons pe_str pe_int pps_nil))) (by rfl) (by rfl) (fun z => by cases z) (by decide))
          (pe_ix ix_tup (pe_ix ix_list (pe_fld (pv 0) rfl) (pe_meth0 (pv 0) T.cl D.mL GL hr1 D.bL .nil pass0) (fun _ _ => rfl)) pe_int (fun _ _ => rfl)) (fun _ _ => rfl)))
      (pss_cons (ps_set (i := 6) scContract.nd rfl (Or.inl rfl) (pe_call GS hr1 (by rfl) mgS D.FS.kp D.bS .nil pass0 (pa_cons (pe_meth (pv 0) T.cl D.mP GP hr1 D.bP .nil pass0 (pa_cons (pv 1) pa_nil)) pa_nil)))
      (pss_cons (ps_for PassesOwn.never rfl (pi_enum (by rfl) T.enum (pa_cons (pe_fld (pv 0) rfl) pa_nil)) (pg_tup rfl (pgs_cons (pg_name (i := 7) scContract.nd rfl (Or.inl rfl)) (pgs_cons (pg_name (i := 8) scContract.nd rfl (Or.inl rfl)) pgs_nil)))
          (pss_one (ps_if (PW.pt (pw_and (pt_cmpR op_eq (pe_ix ix_tup (pv 8) pe_int (fun _ _ => rfl)) pe_str (nomark _)) (pw_and (pt_cmpR op_eq (pe_ix ix_tup (pv 8) pe_int (fun _ _ => rfl)) (pv 4) (nomark _))
              (pw_and1 (pt_cmpR op_eq (pe_call GS hr1 (by rfl) mgS D.FS.kp D.bS .nil pass0 (pa_cons (pe_meth (pv 0) T.cl D.mP GP hr1 D.bP .nil pass0 (pa_cons (pv 7) pa_nil)) pa_nil)) (pv 6) (nomark _))))))
            (pss_one (ps_ret (pe_tup (pa_cons (pv 3) (pa_cons (pv 4) (pa_cons (pv 5) (pa_cons (pe_meth (pv 0) T.cl D.mP GP hr1 D.bP .nil pass0 (pa_cons (pv 7) pa_nil)) pa_nil)))))))
            pss_nil)))
      (pss_one (ps_ret pe_non)))))))), ?_⟩
    refine ⟨_, rfl, p, dx, _, rfl, h1, no_over, m, p, dx, lb, lc, d, xs, cs, rfl, hm, h1, h2, h3, hn, fun H1 s1 => ⟨_, rfl, ?_⟩⟩
    rw [hov]
    refine iteF ⟨_, rfl, p, dx, _, rfl, s1 _ _ h1, no_last_bid, m, p, dx, lb, lc, d, xs, cs, rfl, hm, s1 _ _ h1, s1 _ _ h2, h3.keep (Same.keep s1), hn, fun H2 s2 => ?_⟩
    have s02 := s1.trans s2
    refine ⟨_, rfl, _, _, rfl, rfl, _, rfl, ?_⟩
    rcases hsit with ⟨eb, _⟩ | ⟨kk, b, L, hkB, eb, eL, hbk, hbL, hLn, _, _, hst⟩
    · rw [eb]
      refine iteT (k0 ?_ _ s02)
      unfold contr
      rw [if_pos (by rw [eb]; decide)]
    rw [eb, decide_eq_false (by omega)]
    refine iteF ?_
    have hbn : b < cs.length := Nat.lt_of_le_of_lt hbL hLn
    obtain ⟨vb, hvb, ab, rfl, htb⟩ := h3.get hbk
    have hlc : cs[L]? = some (lastC cs) := by
      unfold lastC
      rw [eL, show ((L : Int)).toNat = L from rfl, List.getD_eq_getElem?_getD, List.getElem?_eq_getElem hLn]
      rfl
    have hnp : notPass (lastC cs) = true := by
      unfold lastC
      exact lastN_at notPass cs cs.length (by unfold lastP at eL; rw [eL]; omega)
    obtain ⟨vL, hvL, aL, rfl, htL⟩ := h3.get hlc
    have hgb : cs.getD b .pass = .bid kk := getD_of hbk
    refine ⟨_, rfl, p, C, dx, _, _, rfl, s02 _ _ h1, T.cl, T.nC, fl_calls, _, rfl, lc, _, _, _, rfl, rfl, SqL.of (s02 _ _ h2), atI_nat hvb, ab, _, rfl, (htb.keep (Same.keep s02)).sq, rfl, _, _, rfl, _, _, rfl, _, _, rfl, rfl, fun q hq => ?_⟩
    have sd : Same H (upd (upd H2 q (.dK [])) q (.dK (mergeK [] tbl))) := same_upd (s02.trans (same_new hq)) (s02.free hq)
    refine ⟨upd_same, tbl, rfl, by decide, _, rfl, p, C, dx, _, _, rfl, sd _ _ h1, T.cl, T.nC, fl_calls, _, rfl, p, dx, _, rfl, sd _ _ h1, no_last, m, p, dx, lb, lc, d, xs, cs, rfl, hm, sd _ _ h1, sd _ _ h2, h3.keep (Same.keep sd), hn, fun H3 s3 => ?_⟩
    have s03 := sd.trans s3
    have hg : DGet H3 q (.str (nameOf (lastC cs))) (some (.int (code (lastC cs)))) := by
      rw [tbl_at _ hnp]
      exact DGet.k (k := .inr _) (s3 _ _ upd_same)
    refine ⟨lc, _, _, _, rfl, rfl, SqL.of (s03 _ _ h2), at_of (j := L) eL hvL, aL, _, _, _, rfl, rfl, (htL.keep (Same.keep s03)).sq, atI_nat (j := 0) rfl, q, _, rfl, hg, ?_⟩
    refine ⟨_, rfl, p, dx, _, rfl, s03 _ _ h1, no_player, _, rfl, p, dx, lb, lc, d, _, rfl, s03 _ _ h1, _, rfl, ?_⟩
    refine ⟨_, rfl, p, C, dx, _, _, rfl, s03 _ _ h1, T.cl, T.nC, fl_calls, lc, xs, rfl, SqL.of (s03 _ _ h2), ?_⟩
    refine for_enum (xs := xs) (fun i σ H' => ∃ v7 v8 : Option V, σ = [some (.ref p), some (.int (b : Int)), some (.str "bid"), some (.int ((kk / m + 1 : Nat) : Int)), some (.int ((kk % m : Nat) : Int)), some (.int (code (lastC cs))), some (.int ((d + (b : Int)) % 4 % 2)), v7, v8] ∧ Same H H' ∧ ∀ j, j < i → okAt m cs b j = false)
      ⟨none, none, rfl, s03, fun j hj => absurd hj (Nat.not_lt_zero _)⟩ (fun i σ H' _ ⟨_, _, _, s', _⟩ => SqL.of (s' _ _ h2)) ?_ ?_
    · rintro i x T0 σ H' hx hT ⟨v7, v8, rfl, s', hno⟩
      obtain ⟨hc, hxc⟩ := h3.get' hx
      have hil : i < cs.length := (List.getElem?_eq_some_iff.mp hc).1
      have s4 : Same H (upd H' T0 (.tup [.int (i : Nat), x])) := s'.trans (same_new hT)
      obtain ⟨ta, rfl, htup⟩ := hxc.keep (Same.keep s4)
      have h14 := s4 _ _ h1
      have nxt : okAt m cs b i = false → ∀ j, j < i + 1 → okAt m cs b j = false := fun e j hj => by
        by_cases hji : j = i
        · rw [hji]; exact e
        · exact hno j (by omega)
      refine ⟨T0, _, rfl, SqT.of upd_same, rfl, _, _, rfl, _, _, rfl, rfl, _, rfl, ta, _, _, _, rfl, rfl, htup.sq, atI_nat (j := 0) rfl, rfl, _, rfl, ?_⟩
      rw [name_bid]
      refine ite2 (fun hib => ?_) (fun hib => iteF ⟨_, _, rfl, s4, nxt ?_⟩)
      · obtain ⟨kj, hkj⟩ : ∃ kj, cs.getD i .pass = .bid kj := by
          cases e : cs.getD i .pass with
          | bid kj => exact ⟨kj, rfl⟩
          | _ => rw [e] at hib; cases hib
        rw [hkj] at htup
        have okE : okAt m cs b i = (decide (kj % m = kk % m) && decide (((b : Int) - (i : Int)) % 2 = 0)) := by
          unfold okAt
          rw [hkj, hgb]
          rfl
        refine ⟨_, rfl, ta, _, _, _, rfl, rfl, htup.sq, atI_nat (j := 2) rfl, _, rfl, rfl, _, rfl, ?_⟩
        rw [nat_eq]
        refine ite2 (fun hst' => ?_) (fun hst' => iteF ⟨_, _, rfl, s4, nxt ?_⟩)
        · refine ⟨_, rfl, p, dx, _, rfl, h14, no_player, _, rfl, p, dx, lb, lc, d, _, rfl, h14, _, rfl, _, rfl, rfl, _, rfl, ?_⟩
          rw [side_eq]
          refine ite2 (fun hpar => ?_) (fun hpar => ⟨_, _, rfl, s4, nxt ?_⟩)
          · refine ⟨_, rfl, _, rfl, _, rfl, _, rfl, p, dx, _, rfl, h14, no_player, _, rfl, p, dx, lb, lc, d, _, rfl, h14, (by show 4 ≤ sizeLine; decide), fun t ht => ?_⟩
            have hfirst : firstAt m cs b = i := first_is hil (by rw [okE, hst', hpar]; rfl) hno
            refine k1 [((kk / m + 1 : Nat) : Int), ((kk % m : Nat) : Int), code (lastC cs), (d + (i : Int)) % 4] ?_ t _ (s4.free ht) (s4.trans (same_new ht)) upd_same
            unfold contr
            rw [if_neg (by rw [eb]; omega), eb]
            show some [((rank (cs.getD b .pass) / m + 1 : Nat) : Int), ((rank (cs.getD b .pass) % m : Nat) : Int), code (lastC cs), (d + (firstAt m cs b : Int)) % 4] = _
            rw [hgb, hfirst]
            rfl
          · rw [okE, Bool.eq_false_iff.mpr hpar, Bool.and_false]
        · rw [okE, Bool.eq_false_iff.mpr hst', Bool.false_and]
      · unfold okAt
        rw [Bool.eq_false_iff.mpr hib, Bool.false_and]
    · rintro σ H' ⟨v7, v8, rfl, s', hno⟩
      have hself : okAt m cs b b = true := okAt_self (by rw [hgb]; rfl)
      rw [hno b (by rw [h3.len]; exact hbn)] at hself
      cases hself
end
end K18

namespace K18
open PySem L2
/-- a list of at most 240 numbers below 4096 -/
def NumL (H : Hp) (l : Addr) : Prop := ∃ ks : List Int, H l = some (.lst (ks.map V.int)) ∧ ks.length ≤ 240 ∧ ∀ k, k ∈ ks → 0 ≤ k ∧ k < 4096
theorem NumL.same {H H' : Hp} {l : Addr} (h : NumL H l) (s : Same H H') : NumL H' l := by
  obtain ⟨ks, h1, h2⟩ := h
  exact ⟨ks, s _ _ h1, h2⟩
theorem num_snoc {H : Hp} {l : Addr} {ks : List Int} {x : Int} (hn : ks.length < 240) (h : ∀ k, k ∈ ks → 0 ≤ k ∧ k < 4096) : NumL (upd H l (.lst (ks.map V.int ++ [V.int (x % 4096)]))) l := by
  refine ⟨ks ++ [x % 4096], ?_, ?_, fun k hk => ?_⟩
  · rw [upd_same, List.map_append]
    rfl
  · rw [List.length_append, List.length_singleton]
    omega
  · rcases List.mem_append.mp hk with hk | hk
    · exact h k hk
    · rw [List.mem_singleton.mp hk]
      exact ⟨Int.emod_nonneg _ (by decide), Int.emod_lt_of_pos _ (by decide)⟩
def spNumbers (K : PySem.W.Frag) : Sp := fun vs H Q _ => ∃ (a : Addr) (ns : List Int), vs = [.ref a, .int 0, .int 240] ∧ SqL K H a (ns.map V.int) ∧ ns.length ≤ 63 ∧
  ∀ (l : Addr) (H' : Hp), H l = none → Same H H' → NumL H' l → Q (.ref l) H'
def spPool (K : PySem.W.Frag) : Sp := fun vs H Q _ => ∃ (a : Addr) (ns : List Int), vs = [.ref a] ∧ SqL K H a (ns.map V.int) ∧ ns.length ≤ 63 ∧
  ∀ (q : Addr) (H' : Hp), H q = none → Same H H' → PoolAt H' q 0 → Q (.ref q) H'
def spPick : Sp := fun vs H Q _ => ∃ (q : Addr) (i : Nat) (n : Int), vs = [.ref q, .int n] ∧ 0 < n ∧ i ≤ 100000 ∧ PoolAt H q i ∧
  ∀ (r : Int) (H' : Hp), 0 ≤ r → r < n → PoolAt H' q (i + 1) → (∀ b o, H b = some o → b ≠ q → H' b = some o) → Q (.int r) H'
section
variable {P : Program} {w : World} {K : PySem.W.Frag} {mg : Str → Option Value} {base : Heap}

theorem scNumbers : FnScope ["_law_script", "_law_first", "_law_most", "_law_found", "_law_at", "_law_cell", "_law_k", "_law_mixed"] ["_law_script", "_law_first", "_law_most"] (defScope sNumbers) := ⟨rfl, rfl, rfl, by decide +kernel, rfl, by decide +kernel, by decide +kernel⟩
theorem ok_numbers {f C aP aD aR : Addr} {fd : FuncData} (F : Fun K "_law_numbers" "_law_numbers" sNumbers f fd) (T : Txt K mg C aP aD aR) : FnOk P w K mg base CX0 1 f fd ["_law_script", "_law_first", "_law_most"] (spNumbers K) := by
  refine F.ok scNumbers (fun vs H Q E h => ?_) (fun cdv A outer s H vs Q E hr h => ?_)
  · obtain ⟨a, ns, rfl, _⟩ := h
    rfl
  · obtain ⟨a, ns, rfl, hS, hlen, k⟩ := h
    refine ⟨_, pss_cons (ps_set (i := 3) scNumbers.nd rfl (Or.inl rfl) (pe_lst pa_nil))
      (pss_cons (ps_for PassesOwn.never rfl (pi_range2 (by rfl) T.range (pa_cons (pv 1) (pa_cons (pe_callB call_len_seq (by rfl) T.len PySem.boot_len (pa_cons (pv 0) pa_nil)) pa_nil))) (pg_name (i := 4) scNumbers.nd rfl (Or.inl rfl))
        (pss_cons (ps_set (i := 5) scNumbers.nd rfl (Or.inl rfl) (pe_callB call_abs (by rfl) T.abs (by decide +kernel) (pa_cons (pe_ix ix_list (pv 0) (pv 4) (fun _ _ => rfl)) pa_nil)))
        (pss_one (ps_if (pt_cmpR op_ge (pv 5) pe_int (nomark _))
          (pss_one (ps_for PassesOwn.never rfl (pi_range1 (by rfl) T.range (pa_cons pe_int pa_nil)) (pg_name (i := 6) scNumbers.nd rfl (Or.inl rfl))
            (pss_one (ps_if (PW.pt (pw_and (pt_cmpR op_gt (pv 5) pe_int (nomark _)) (pw_and1 (pt_cmpR op_lt (pe_callB call_len_seq (by rfl) T.len PySem.boot_len (pa_cons (pv 3) pa_nil)) (pv 2) (nomark _)))))
              (pss_cons (ps_expr (pe_bm PySem.F.plainAttrs_list PySem.F.slot_list_append PySem.F.type_list_append mt_append (pv 3) (pa_cons (pe_op op_mod (pe_callTy call_int1 (by rfl) T.int (by decide +kernel) (pa_cons (pv 5) pa_nil)) pe_int) pa_nil)))
                (pss_one (ps_set (i := 5) scNumbers.nd rfl (Or.inl rfl) (pe_op op_fdiv (pv 5) pe_int))))
              pss_nil))))
          (pss_one (ps_if (pt_cmpR op_lt (pe_callB call_len_seq (by rfl) T.len PySem.boot_len (pa_cons (pv 3) pa_nil)) (pv 2) (nomark _))
            (pss_cons (ps_set (i := 7) scNumbers.nd rfl (Or.inl rfl) (pe_op op_mod (pe_callTy call_int1 (by rfl) T.int (by decide +kernel) (pa_cons (pe_op op_add (pe_op op_add (pe_op op_mul (pv 5) pe_int) (pe_op op_mul (pv 4) pe_int)) pe_int) pa_nil)) pe_int))
            (pss_cons (ps_set (i := 7) scNumbers.nd rfl (Or.inl rfl) (pe_op op_mod (pe_callTy call_int1 (by rfl) T.int (by decide +kernel) (pa_cons (pe_op op_add (pe_op op_mul (pv 7) pe_int) (pe_op op_fdiv (pv 7) pe_int)) pa_nil)) pe_int))
            (pss_one (ps_expr (pe_bm PySem.F.plainAttrs_list PySem.F.slot_list_append PySem.F.type_list_append mt_append (pv 3) (pa_cons (pe_op op_mod (pe_callTy call_int1 (by rfl) T.int (by decide +kernel) (pa_cons (pv 7) pa_nil)) pe_int) pa_nil))))))
            pss_nil))))))
      (pss_one (ps_ret (pv 3)))), ?_⟩
    refine ⟨Nat.zero_le _, fun l hl => ?_⟩
    have s1 : Same H (upd H l (.lst [])) := same_new hl
    refine ⟨_, rfl, _, rfl, a, _, rfl, .inl (s1.seq hS), _, _, rfl, ⟨by decide, by decide, by rw [List.length_map]; omega, by rw [List.length_map]; omega⟩, ?_⟩
    have eL : (((ns.map V.int).length : Int) - 0).toNat = ns.length := by rw [List.length_map]; omega
    rw [eL]
    refine for_range (lo := 0) (n := ns.length) (fun i σ H' => ∃ v4 v5 v6 v7 : Option V, σ = [some (.ref a), some (.int 0), some (.int 240), some (.ref l), v4, v5, v6, v7] ∧ Same H H' ∧ NumL H' l) ⟨none, none, none, none, rfl, s1, [], upd_same, by decide, fun k hk => by cases hk⟩ ?_ ?_
    · rintro i σ H1 hi ⟨v4, v5, v6, v7, rfl, s2, ks, hk1, hk2, hk3⟩
      obtain ⟨x, hx⟩ : ∃ x, ns[i]? = some x := ⟨ns[i], List.getElem?_eq_getElem hi⟩
      refine ⟨_, rfl, _, rfl, a, _, _, _, rfl, rfl, s2.seq hS, at_of (j := i) (v := .int x) (by omega) (by rw [List.getElem?_map, hx]; rfl), _, rfl, ?_⟩
      generalize (if x < 0 then -x else x) = c
      refine ⟨_, rfl, _, _, rfl, rfl, _, rfl, ?_⟩
      refine ite2 (fun _ => ?_) (fun _ => ?_)
      · refine ⟨60, rfl, by decide, by decide, for_range (lo := 0) (n := 60) (fun i' σ H' => ∃ (c : Int) (v6 : Option V), σ = [some (.ref a), some (.int 0), some (.int 240), some (.ref l), some (.int (0 + (i : Int))), some (.int c), v6, v7] ∧ Same H H' ∧ NumL H' l) ⟨c, v6, rfl, s2, ks, hk1, hk2, hk3⟩ ?_ ?_⟩
        · rintro i' σ H2 hi' ⟨c, v6, rfl, s3, ks, hk1, hk2, hk3⟩
          refine ⟨_, rfl, _, _, rfl, rfl, _, rfl, ?_⟩
          refine ite2 (fun _ => ?_) (fun _ => iteF ⟨c, _, rfl, s3, ks, hk1, hk2, hk3⟩)
          refine ⟨_, rfl, l, _, rfl, .inl (SqL.of hk1), _, rfl, _, _, rfl, rfl, _, rfl, ?_⟩
          rw [List.length_map]
          refine ite2 (fun hlt => ?_) (fun _ => ⟨c, _, rfl, s3, ks, hk1, hk2, hk3⟩)
          have hlt : ks.length < 240 := by have := of_decide_eq_true hlt; omega
          refine ⟨_, rfl, .inl ⟨rfl, _, SqL.of hk1⟩, _, rfl, .inl ⟨_, rfl, _, _, rfl, rfl, (by show (0 : Int) < 4096; decide), l, _, _, rfl, rfl, hk1, ?_, ?_⟩⟩
          · rw [List.length_map, sizeLine_eq]
            omega
          · refine ⟨_, rfl, _, _, rfl, rfl, ⟨by decide, by decide⟩, _, _, rfl, same_upd s3 hl, num_snoc hlt hk3⟩
        · rintro σ H2 ⟨c, v6, rfl, s3, hN⟩
          exact ⟨_, _, _, _, rfl, s3, hN⟩
      · refine ⟨_, rfl, l, _, rfl, .inl (SqL.of hk1), _, rfl, _, _, rfl, rfl, _, rfl, ?_⟩
        rw [List.length_map]
        refine ite2 (fun hlt => ?_) (fun _ => ⟨_, _, _, _, rfl, s2, ks, hk1, hk2, hk3⟩)
        have hlt : ks.length < 240 := by have := of_decide_eq_true hlt; omega
        refine ⟨_, rfl, _, _, rfl, rfl, .inr ⟨by decide, by decide⟩, _, rfl, _, _, rfl, rfl, .inr ⟨by decide, by decide⟩, _, _, rfl, rfl, _, _, rfl, rfl, .inl ⟨_, rfl, _, _, rfl, rfl, (by show (0 : Int) < 2147483647; decide), ?_⟩⟩
        generalize (c * 48271 + (0 + (i : Int)) * 69621 + 12345) % 2147483647 = x1
        refine ⟨_, rfl, _, _, rfl, rfl, .inr ⟨by decide, by decide⟩, _, rfl, _, _, rfl, rfl, ⟨by decide, by decide⟩, _, _, rfl, rfl, .inl ⟨_, rfl, _, _, rfl, rfl, (by show (0 : Int) < 1000003; decide), ?_⟩⟩
        generalize (x1 * 69621 + x1 / 1009) % 1000003 = x2
        refine ⟨_, rfl, .inl ⟨rfl, _, SqL.of hk1⟩, _, rfl, .inl ⟨_, rfl, _, _, rfl, rfl, (by show (0 : Int) < 4096; decide), l, _, _, rfl, rfl, hk1, ?_, ?_⟩⟩
        · rw [List.length_map, sizeLine_eq]
          omega
        · exact ⟨_, _, _, _, rfl, same_upd s2 hl, num_snoc hlt hk3⟩
    · rintro σ H1 ⟨v4, v5, v6, v7, rfl, s2, hN⟩
      exact ⟨_, rfl, k l H1 hl s2 hN⟩
end
end K18

namespace K18
open PySem L2
section
variable {P : Program} {w : World} {K : PySem.W.Frag} {mg : Str → Option Value} {base : Heap}

theorem scPool : FnScope ["_law_script"] ["_law_script"] (defScope sPool) := ⟨rfl, rfl, rfl, by decide +kernel, rfl, by decide +kernel, by decide +kernel⟩
theorem ok_pool {f fN C aP aD aR : Addr} {fd fdN : FuncData} (F : Fun K "_law_pool" "_law_pool" sPool f fd) (T : Txt K mg C aP aD aR)
    (FN : Fun K "_law_numbers" "_law_numbers" sNumbers fN fdN) (bN : Binds K fdN ["_law_script", "_law_first", "_law_most"] []) (mgN : mg "_law_numbers" = some (.ref fN)) : FnOk P w K mg base CX0 2 f fd ["_law_script"] (spPool K) := by
  have GN : FnOk P w K mg base CX0 1 fN fdN ["_law_script", "_law_first", "_law_most"] (spNumbers K) := ok_numbers FN T
  refine F.ok scPool (fun vs H Q E h => ?_) (fun cdv A outer s H vs Q E hr h => ?_)
  · obtain ⟨a, ns, rfl, _⟩ := h
    rfl
  · obtain ⟨a, ns, rfl, hS, hlen, k⟩ := h
    refine ⟨_, pss_one (ps_ret (pe_lst (pa_cons (pe_op op_cat (pe_call GN hr (by rfl) mgN FN.kp bN .nil pass0 (pa_cons (pv 0) (pa_cons pe_int (pa_cons pe_int pa_nil)))) (pe_lst (pa_cons pe_int pa_nil))) (pa_cons pe_int pa_nil)))), ?_⟩
    refine ⟨_, rfl, a, ns, rfl, hS, hlen, fun l H1 nl s1 ⟨ks, hk1, hk2, hk3⟩ => ⟨(by show 1 ≤ sizeLine; decide), fun b hb => ?_⟩⟩
    have s2 : Same H (upd H1 b (.lst [.int 5])) := s1.trans (same_new hb)
    have nlb : l ≠ b := ne_of_none hk1 hb
    refine ⟨l, b, _, _, rfl, rfl, by rw [upd_ne nlb]; exact hk1, upd_same, ?_, fun c hc => ⟨(by show 2 ≤ sizeLine; decide), fun q hq => ?_⟩⟩
    · rw [List.length_map, sizeLine_eq]
      simp
      omega
    · have s3 : Same H (upd (upd H1 b (.lst [.int 5])) c (.lst (ks.map V.int ++ [.int 5]))) := s2.trans (same_new hc)
      have ncq : c ≠ q := ne_of_none upd_same hq
      refine k q _ (s3.free hq) (s3.trans (same_new hq)) ⟨c, ks ++ [5], upd_same, ?_, ?_, ?_, fun x hx => ?_⟩
      · rw [upd_ne ncq, upd_same, List.map_append]
        rfl
      · rw [List.length_append]
        exact Nat.succ_pos _
      · rw [List.length_append, List.length_singleton]
        omega
      · rcases List.mem_append.mp hx with hx | hx
        · exact hk3 x hx
        · rw [List.mem_singleton.mp hx]
          exact ⟨by decide, by decide⟩

theorem scPick : FnScope ["_law_pool_here", "_law_many", "_law_at", "_law_turn"] ["_law_pool_here", "_law_many"] (defScope sPick) := ⟨rfl, rfl, rfl, by decide +kernel, rfl, by decide +kernel, by decide +kernel⟩
theorem ok_pick {f C aP aD aR : Addr} {fd : FuncData} (F : Fun K "_law_pick" "_law_pick" sPick f fd) (T : Txt K mg C aP aD aR) : FnOk P w K mg base CX0 1 f fd ["_law_pool_here", "_law_many"] spPick := by
  refine F.ok scPick (fun vs H Q E h => ?_) (fun cdv A outer s H vs Q E hr h => ?_)
  · obtain ⟨q, i, n, rfl, _⟩ := h
    rfl
  · obtain ⟨q, i, n, rfl, hn, hi, ⟨l, ks, h1, h2, hk0, hk1, hk2⟩, k⟩ := h
    refine ⟨_, pss_cons (ps_set (i := 2) scPick.nd rfl (Or.inl rfl) (pe_ix ix_list (pv 0) pe_int (fun _ _ => rfl)))
      (pss_cons (ps_asg (pe_op op_add (pv 2) pe_int) (pg_sub (pv 0) pe_int set_list))
      (pss_cons (ps_set (i := 3) scPick.nd rfl (Or.inl rfl) (pe_op op_fdiv (pv 2) (pe_callB call_len_seq (by rfl) T.len PySem.boot_len (pa_cons (pe_ix ix_list (pv 0) pe_int (fun _ _ => rfl)) pa_nil))))
      (pss_one (ps_ret (pe_op op_mod (pe_callTy call_int1 (by rfl) T.int (by decide +kernel) (pa_cons (pe_op op_add (pe_op op_add
          (pe_ix ix_list (pe_ix ix_list (pv 0) pe_int (fun _ _ => rfl)) (pe_op op_mod (pe_callTy call_int1 (by rfl) T.int (by decide +kernel) (pa_cons (pv 2) pa_nil)) (pe_callB call_len_seq (by rfl) T.len PySem.boot_len (pa_cons (pe_ix ix_list (pv 0) pe_int (fun _ _ => rfl)) pa_nil))) (fun _ _ => rfl))
          (pe_op op_mul (pv 3) pe_int)) (pe_op op_mul (pv 3) (pv 2))) pa_nil)) (pv 1)))))), ?_⟩
    have nlq : l ≠ q := ne_of h2 h1 fun e => by
      cases ks with
      | nil => cases e
      | cons x r => cases e
    have h1' : (upd H q (.lst [.ref l, .int ((i : Int) + 1)])) q = some (.lst [.ref l, .int ((i : Int) + 1)]) := upd_same
    have h2' : (upd H q (.lst [.ref l, .int ((i : Int) + 1)])) l = some (.lst (ks.map V.int)) := by rw [upd_ne nlq]; exact h2
    have hj : i % ks.length < ks.length := Nat.mod_lt _ hk0
    obtain ⟨x, hx⟩ : ∃ x, ks[i % ks.length]? = some x := ⟨ks[i % ks.length], List.getElem?_eq_getElem hj⟩
    refine ⟨_, rfl, q, _, _, _, rfl, rfl, SqL.of h1, atI_nat (j := 1) rfl, _, rfl, _, _, rfl, rfl, _, rfl, q, _, _, 1, rfl, rfl, h1, rfl, ?_⟩
    refine ⟨_, rfl, _, rfl, q, _, _, _, rfl, rfl, SqL.of h1', atI_nat (j := 0) rfl, l, _, rfl, .inl (SqL.of h2'), _, _, rfl, rfl, ⟨by rw [List.length_map]; omega, by rw [List.length_map]; omega⟩, ?_⟩
    refine ⟨_, rfl, q, _, _, _, rfl, rfl, SqL.of h1', atI_nat (j := 0) rfl, _, rfl, .inl ⟨_, rfl, _, rfl, q, _, _, _, rfl, rfl, SqL.of h1', atI_nat (j := 0) rfl, l, _, rfl, .inl (SqL.of h2'), _, _, rfl, rfl, by rw [List.length_map]; omega, ?_⟩⟩
    refine ⟨l, _, _, _, rfl, rfl, SqL.of h2', at_of (j := i % ks.length) (v := .int x) (by rw [List.length_map]; rfl) (by rw [List.getElem?_map, hx]; rfl), _, rfl, _, _, rfl, rfl, .inr ⟨by decide, by decide⟩, _, _, rfl, rfl, _, rfl, _, rfl, _, _, rfl, rfl, .inr ⟨by omega, by omega⟩, _, _, rfl, rfl,
      .inl ⟨_, rfl, _, rfl, _, _, rfl, rfl, hn, ?_⟩⟩
    exact k _ _ (Int.emod_nonneg _ (by omega)) (Int.emod_lt_of_pos _ hn) ⟨l, ks, h1', h2', hk0, hk1, hk2⟩ fun b o e hb => by rw [upd_ne hb]; exact e
end
end K18

namespace K18
open PySem L2
def spLawContract (K : PySem.W.Frag) : Sp := fun vs H Q _ => ∃ (m B : Nat) (d : Int) (l : Addr) (xs : List V) (cs : List Cl), vs = [.int d, .ref l] ∧ 0 < m ∧ H l = some (.lst xs) ∧ CallsAt K m H xs cs ∧ Sit B cs ∧ B ≤ 100 ∧
  (contr m d cs = none → ∀ H', Same H H' → Q .non H') ∧ ∀ ys, contr m d cs = some ys → ∀ (t : Addr) (H' : Hp), H t = none → Same H H' → H' t = some (.tup (ys.map V.int)) → Q (.ref t) H'
section
variable {P : Program} {w : World} {K : PySem.W.Frag} {mg : Str → Option Value} {base : Heap}
theorem ints_dp {K : PySem.W.Frag} {H : Hp} {α : Type} (f : α → Int) : ∀ l : List α, DpAll K H (l.map fun a => V.int (f a)) (l.map fun a => PyData.int (f a))
  | [] => .nil
  | a :: l => .cons (.int _) (ints_dp f l)
theorem ints_shaped {α : Type} (f : α → Int) (l : List α) : SeqAt.shaped (.list (l.map fun a => PyData.int (f a))) = true := by
  have h1 : ∀ l : List α, PyData.canLayAll0 (l.map fun a => PyData.int (f a)) = true := fun l => by
    induction l with
    | nil => simp [PyData.canLayAll0]
    | cons a l ih => simp only [List.map_cons, PyData.canLayAll0, PyData.canLay0, ih, Bool.and_self]
  have h2 : ∀ l : List α, PyData.depthAll (l.map fun a => PyData.int (f a)) ≤ 1 := fun l => by
    induction l with
    | nil => simp [PyData.depthAll]
    | cons a l ih =>
      simp only [List.map_cons, PyData.depthAll, PyData.depth]
      omega
  have h3 : PyData.depth (.list (l.map fun a => PyData.int (f a))) ≤ 64 := by
    have := h2 l
    simp only [PyData.depth]
    omega
  show (PyData.canLay0 (.list (l.map fun a => PyData.int (f a))) && decide (PyData.depth (.list (l.map fun a => PyData.int (f a))) ≤ 64)) = true
  rw [Bool.and_eq_true]
  exact ⟨by simp only [PyData.canLay0]; exact h1 l, decide_eq_true h3⟩
theorem nil_shaped : SeqAt.shaped (.list []) = true := by decide +kernel
/-- the status so far, behind i calls from b on -/
def stN (cs : List Cl) (b i : Nat) : Int := if lastN notPass cs (b + i) < (b : Int) then 0 else code (cs.getD (lastN notPass cs (b + i)).toNat .pass)
theorem stN_zero (cs : List Cl) (b : Nat) : stN cs b 0 = 0 := by
  unfold stN
  rw [if_pos (by have := lastN_lt notPass cs (b + 0); omega)]
theorem stN_skip {cs : List Cl} {b i : Nat} (h : notPass (cs.getD (b + i) .pass) = false) : stN cs b (i + 1) = stN cs b i := by
  have e : lastN notPass cs (b + (i + 1)) = lastN notPass cs (b + i) := by
    rw [← Nat.add_assoc]
    simp only [lastN]
    rw [h, if_neg (by decide)]
  unfold stN
  rw [e]
theorem stN_new {cs : List Cl} {b i : Nat} (h : notPass (cs.getD (b + i) .pass) = true) : stN cs b (i + 1) = code (cs.getD (b + i) .pass) := by
  have e : lastN notPass cs (b + (i + 1)) = ((b + i : Nat) : Int) := by
    rw [← Nat.add_assoc]
    simp only [lastN]
    rw [if_pos h]
  unfold stN
  rw [e, if_neg (by omega)]
  rfl
def names3 : List V := [.str "bid", .str "double", .str "redouble"]
theorem idx_of (c : Cl) (h : notPass c = true) : ∃ (j : Nat) (z : V), names3[j]? = some z ∧ eqV z (.str (nameOf c)) = true ∧ (∀ (i : Nat) (z' : V), i < j → names3[i]? = some z' → eqV z' (.str (nameOf c)) = false) ∧ (j : Int) = code c := by
  cases c with
  | pass => cases h
  | bid k => exact ⟨0, .str "bid", rfl, by show eqV (.str "bid") (.str "bid") = true; decide +kernel, fun i z' hi => absurd hi (Nat.not_lt_zero _), rfl⟩
  | dbl =>
    refine ⟨1, .str "double", rfl, by show eqV (.str "double") (.str "double") = true; decide +kernel, fun i z' hi e => ?_, rfl⟩
    have e0 : i = 0 := by omega
    subst e0
    cases e
    show eqV (.str "bid") (.str "double") = false
    decide +kernel
  | rdbl =>
    refine ⟨2, .str "redouble", rfl, by show eqV (.str "redouble") (.str "redouble") = true; decide +kernel, fun i z' hi e => ?_, rfl⟩
    have e0 : i = 0 ∨ i = 1 := by omega
    rcases e0 with e0 | e0
    · subst e0
      cases e
      show eqV (.str "bid") (.str "redouble") = false
      decide +kernel
    · subst e0
      cases e
      show eqV (.str "double") (.str "redouble") = false
      decide +kernel
/-- the first comprehension's numbers, filtered -/
theorem filt_all (m : Nat) (cs : List Cl) (b n : Nat) : (plcN isBid cs n).filter (okAt m cs b) = (List.range n).filter (okAt m cs b) := by
  unfold plcN
  rw [List.filter_filter]
  congr 1
  funext i
  unfold okAt
  cases isBid (cs.getD i .pass) <;> simp
theorem filt_head {m : Nat} {cs : List Cl} {b : Nat} (hb : b < cs.length) (h : isBid (cs.getD b .pass) = true) : ((List.range cs.length).filter (okAt m cs b))[0]? = some (firstAt m cs b) := by
  rw [← List.head?_eq_getElem?, List.head?_filter]
  unfold firstAt
  cases e : (List.range cs.length).find? (okAt m cs b) with
  | some i => rfl
  | none =>
    have := List.find?_eq_none.mp e b (List.mem_range.mpr hb)
    rw [okAt_self h] at this
    exact absurd rfl this
theorem take_filt {p : Nat → Bool} {l : List Nat} {i x : Nat} (h : l[i]? = some x) : (l.take (i + 1)).filter p = (l.take i).filter p ++ if p x = true then [x] else [] := by
  rw [List.take_add_one, h, List.filter_append]
  congr 1
  simp only [Option.toList_some, List.filter_cons, List.filter_nil]
end
end K18

namespace K18
open PySem L2
abbrev rInt1 : List V → Hp → VK → Prop := fun xs H Q => (∃ i, xs = [.int i] ∧ Q (.int i) H) ∨ ∃ k, xs = [.bl k] ∧ Q (.int (if k then 1 else 0)) H
section
variable {P : Program} {w : World} {K : PySem.W.Frag} {mg : Str → Option Value} {base : Heap}
abbrev nLC : List Str := ["_law_dealer", "_law_calls", "_law_bids", "_law_last", "_law_status", "_law_call", "_law_first", "_law_k"]
theorem scLawContract : FnScope nLC ["_law_dealer", "_law_calls"] (defScope sLawContract) := ⟨rfl, rfl, rfl, by decide +kernel, rfl, by decide +kernel, by decide +kernel⟩
/-- calls[k][i] -/
abbrev tItem (K : PySem.W.Frag) (i : Int) : TE := tOp (rIxT K) (tOp (rIxL K) (tVar 1) (tVar 7)) (tC (.int i))
abbrev tTest1 (K : PySem.W.Frag) : TT := tTest (tOp rEq (tItem K 0) (tC (.str "bid")))
abbrev tTest2 (K : PySem.W.Frag) : TT := tAnd (tTest (tOp rEq (tItem K 2) (tOp (rIxT K) (tVar 3) (tC (.int 2)))))
  (tTest (tOp rEq (tOp (rI (fun _ j => 0 < j) fun i j => .int (i % j)) (tCB rInt1 (tCons (tOp (rI0 fun i j => .int (i - j)) (tOp (rIxL K) (tVar 2) (tUn (rU fun i => .int (-i)) (tC (.int 1)))) (tVar 7)) tNil)) (tC (.int 2))) (tC (.int 0))))
theorem ok_lawcontract {f C aP aD aR : Addr} {fd : FuncData} (F : Fun K "_law_contract" "_law_contract" sLawContract f fd) (T : Txt K mg C aP aD aR) : FnOk P w K mg base CX0 1 f fd ["_law_dealer", "_law_calls"] (spLawContract K) := by
  refine F.ok scLawContract (fun vs H Q E h => ?_) (fun cdv A outer s H vs Q E hr h => ?_)
  · obtain ⟨m, B, d, l, xs, cs, rfl, _⟩ := h
    rfl
  · obtain ⟨m, B, d, l, xs, cs, rfl, hm, h2, h3, hsit, hB, k0, k1⟩ := h
    have hn : cs.length ≤ 1000 := by
      have := sit_len hsit
      omega
    refine ⟨_, pss_cons (ps_set (i := 2) scLawContract.nd rfl (Or.inr rfl) (pe_lc (own := [("_law_k", 7)]) (g := gName 7) (tt := tTest1 K) (te := tVar 7) rfl scLawContract.nd
          (pi_range1 (by rfl) T.range (pa_cons (pe_callB call_len_seq (by rfl) T.len PySem.boot_len (pa_cons (pv 1) pa_nil)) pa_nil)) (blkOk_by (N := nLC) (sc := defScope sLawContract) (by decide +kernel))
          (fun _ _ _ _ _ => pg_name (i := 7) scLawContract.nd rfl (Or.inl rfl)) (fun _ _ _ _ _ => pts_one (pt_cmpR op_eq (pe_ix ix_tup (pe_ix ix_list (pv 1) (pv 7) (fun _ _ => rfl)) pe_int (fun _ _ => rfl)) pe_str (nomark _))) (fun _ _ _ _ _ => pv 7)))
      (pss_cons (ps_if (pt_cmpR (op_eqD hr.units) (pv 2) (pe_lst pa_nil) (nomark _)) (pss_one (ps_ret pe_non)) pss_nil)
      (pss_cons (ps_set (i := 3) scLawContract.nd rfl (Or.inr rfl) (pe_ix ix_list (pv 1) (pe_ix ix_list (pv 2) (pe_un un_neg pe_int) (fun _ _ => rfl)) (fun _ _ => rfl)))
      (pss_cons (ps_set (i := 4) scLawContract.nd rfl (Or.inl rfl) pe_int)
      (pss_cons (ps_for PassesOwn.never rfl (pi_list (pe_slice sl_list (pv 1) (po_some (pe_ix ix_list (pv 2) (pe_un un_neg pe_int) (fun _ _ => rfl))) po_none)) (pg_name (i := 5) scLawContract.nd rfl (Or.inl rfl))
          (pss_one (ps_if (pt_cmpR op_ne (pe_ix ix_tup (pv 5) pe_int (fun _ _ => rfl)) pe_str (nomark _))
            (pss_one (ps_set (i := 4) scLawContract.nd rfl (Or.inl rfl) (pe_bm PySem.F.plainAttrs_list PySem.F.slot_list_index PySem.F.type_list_index mt_index (pe_lst (pa_cons pe_str (pa_cons pe_str (pa_cons pe_str pa_nil)))) (pa_cons (pe_ix ix_tup (pv 5) pe_int (fun _ _ => rfl)) pa_nil)))) pss_nil)))
      (pss_cons (ps_set (i := 6) scLawContract.nd rfl (Or.inl rfl) (pe_ix ix_list (pe_lc (own := [("_law_k", 7)]) (g := gName 7) (tt := tTest2 K) (te := tVar 7) rfl scLawContract.nd
          (pi_list (pv 2)) (blkOk_by (N := nLC) (sc := defScope sLawContract) (by decide +kernel))
          (fun _ _ _ _ _ => pg_name (i := 7) scLawContract.nd rfl (Or.inl rfl))
          (fun _ _ _ _ _ => pts_one (PW.pt (pw_and (pt_cmpR op_eq (pe_ix ix_tup (pe_ix ix_list (pv 1) (pv 7) (fun _ _ => rfl)) pe_int (fun _ _ => rfl)) (pe_ix ix_tup (pv 3) pe_int (fun _ _ => rfl)) (nomark _))
            (pw_and1 (pt_cmpR op_eq (pe_op op_mod (pe_callTy call_int1 (by rfl) T.int (by decide +kernel) (pa_cons (pe_op op_sub (pe_ix ix_list (pv 2) (pe_un un_neg pe_int) (fun _ _ => rfl)) (pv 7)) pa_nil)) pe_int) pe_int (nomark _))))))
          (fun _ _ _ _ _ => pv 7)) pe_int (fun _ _ => rfl)))
      (pss_one (ps_ret (pe_tup (pa_cons (pe_ix ix_tup (pv 3) pe_int (fun _ _ => rfl)) (pa_cons (pe_ix ix_tup (pv 3) pe_int (fun _ _ => rfl)) (pa_cons (pv 4)
          (pa_cons (pe_op op_mod (pe_callTy call_int1 (by rfl) T.int (by decide +kernel) (pa_cons (pe_op op_add (pv 0) (pv 6)) pa_nil)) pe_int) pa_nil)))))))))))), ?_⟩
    -- _law_bids
    refine ⟨_, rfl, l, xs, rfl, .inl (SqL.of h2), _, rfl, by omega, by rw [h3.len]; omega, fun D hD => ?_⟩
    rw [show ((xs.length : Int)).toNat = cs.length by rw [h3.len]; rfl]
    refine lc_range (lo := 0) (n := cs.length) (fun i H' => Same H H' ∧ H' D = some (.lst (placeV isBid cs i))) ⟨same_new hD, upd_same⟩ ?_ ?_
    · rintro i H1 hi ⟨s1, hD1⟩
      have hic : cs[i]? = some (cs.getD i .pass) := by rw [List.getD_eq_getElem?_getD, List.getElem?_eq_getElem hi]; rfl
      obtain ⟨v, hv, ta, rfl, htup⟩ := h3.get hic
      refine ⟨rfl, _, rfl, _, rfl, l, _, _, _, rfl, rfl, SqL.of (s1 _ _ h2), at_of (j := i) (by omega) hv, ta, _, _, _, rfl, rfl, (htup.keep (Same.keep s1)).sq, atI_nat (j := 0) rfl, rfl, _, rfl, ?_⟩
      rw [name_bid]
      refine ite2 (fun hp => ?_) (fun hp => ?_)
      · refine ⟨_, rfl, _, hD1, ?_, same_upd s1 hD, ?_⟩
        · have := placeV_len isBid cs i
          rw [sizeLine_eq]
          omega
        · rw [upd_same, placeV_succ _ _ _ hp, Int.zero_add]
      · exact ⟨s1, by rw [placeV_skip _ _ _ (by simpa using hp)]; exact hD1⟩
    · rintro H1 ⟨s1, hD1⟩
      -- if _law_bids == []: return None
      refine ⟨_, rfl, Nat.zero_le _, fun e he => ?_⟩
      have s2 : Same H (upd H1 e (.lst [])) := s1.trans (same_new he)
      have hD2 : (upd H1 e (.lst [])) D = some (.lst (placeV isBid cs cs.length)) := by rw [upd_ne (ne_of_none hD1 he)]; exact hD1
      refine ⟨.list ((plcN isBid cs cs.length).map fun (i : Nat) => PyData.int (i : Int)), .list [], .lst (SqL.of hD2) (ints_dp (fun (i : Nat) => (i : Int)) _), .lst (SqL.of upd_same) .nil, ints_shaped (fun (i : Nat) => (i : Int)) _, nil_shaped, _, rfl, ?_⟩
      rcases hsit with ⟨eb, _⟩ | ⟨kk, b, L, hkB, eb, eL, hbk, hbL, hLn, _, _, hst⟩
      · have ep : plcN isBid cs cs.length = [] := by
          rcases plcN_last isBid cs cs.length with ⟨q, _⟩ | ⟨q, j, _, e2⟩
          · exact q
          · unfold lastP at eb
            rw [e2] at eb
            omega
        rw [ep]
        refine iteT (k0 ?_ _ s2)
        unfold contr
        rw [if_pos (by rw [eb]; decide)]
      obtain ⟨pl, ep⟩ : ∃ pl, plcN isBid cs cs.length = pl ++ [b] := by
        rcases plcN_last isBid cs cs.length with ⟨_, e2⟩ | ⟨q, j, e1, e2⟩
        · unfold lastP at eb
          rw [e2] at eb
          omega
        · unfold lastP at eb
          rw [e2] at eb
          have : j = b := by omega
          exact ⟨q, by rw [e1, this]⟩
      have hbl : placeV isBid cs cs.length = (pl.map fun (i : Nat) => V.int (i : Int)) ++ [V.int (b : Int)] := by
        unfold placeV
        rw [ep, List.map_append]
        rfl
      have hlast : atI (placeV isBid cs cs.length) (-1) = some (V.int (b : Int)) := by
        rw [hbl]
        exact atI_last _ _
      have hne : PyData.eqv (.list ((plcN isBid cs cs.length).map fun (i : Nat) => PyData.int (i : Int))) (.list []) = false := by
        rw [ep]
        cases pl <;> simp [PyData.eqv, PyData.eqvAll]
      rw [hne]
      have hbn : b < cs.length := Nat.lt_of_le_of_lt hbL hLn
      have hgb : cs.getD b .pass = .bid kk := getD_of hbk
      obtain ⟨vb, hvb, ab, rfl, htb⟩ := h3.get hbk
      -- _law_last; _law_status = 0
      refine iteF ⟨_, rfl, _, rfl, _, rfl, D, _, _, _, rfl, rfl, SqL.of hD2, hlast, l, _, _, _, rfl, rfl, SqL.of (s2 _ _ h2), atI_nat hvb, ?_⟩
      -- the loop
      refine ⟨_, rfl, _, rfl, _, rfl, D, _, _, _, rfl, rfl, SqL.of hD2, hlast, _, rfl, l, xs, rfl, SqL.of (s2 _ _ h2), fun q hq => ?_⟩
      rw [cutV_from]
      have s3 : Same H (upd (upd H1 e (.lst [])) q (.lst (xs.drop b))) := s2.trans (same_new hq)
      have hD3 : (upd (upd H1 e (.lst [])) q (.lst (xs.drop b))) D = some (.lst (placeV isBid cs cs.length)) := by rw [upd_ne (ne_of_none hD2 hq)]; exact hD2
      have hDH : H D = none := hD
      have hqH : H q = none := s2.free hq
      refine ⟨q, rfl, ⟨_, SqL.of upd_same⟩, for_list (K := K) (a := q) (xs := xs.drop b) (fun i σ H' => ∃ v5 : Option V, σ = [some (.int d), some (.ref l), some (.ref D), some (.ref ab), some (.int (stN cs b i)), v5, none, none] ∧ Same H H' ∧ H' D = some (.lst (placeV isBid cs cs.length)) ∧ H' q = some (.lst (xs.drop b)))
        ⟨none, by rw [stN_zero]; rfl, s3, hD3, upd_same⟩ (fun i σ H' _ ⟨_, _, _, _, hq'⟩ => SqL.of hq') ?_ ?_⟩
      · rintro i x σ H4 hx ⟨v5, rfl, s4, hD4, hq4⟩
        rw [List.getElem?_drop] at hx
        obtain ⟨hc, ta, rfl, htup⟩ := h3.get' hx
        have htup4 := htup.keep (Same.keep s4)
        refine ⟨_, rfl, ta, _, _, _, rfl, rfl, htup4.sq, atI_nat (j := 0) rfl, rfl, _, rfl, ?_⟩
        rw [name_pass]
        refine ite2 (fun hp => ?_) (fun hp => ?_)
        · obtain ⟨j, z, hj, hz, hno, hcode⟩ := idx_of _ hp
          refine ⟨(by show 3 ≤ sizeLine; decide), fun r hr3 => ?_⟩
          have s5 : Same H4 (upd H4 r (.lst names3)) := same_new hr3
          refine ⟨.inl ⟨rfl, _, SqL.of upd_same⟩, _, rfl, ta, _, _, _, rfl, rfl, (htup4.keep (Same.keep s5)).sq, atI_nat (j := 0) rfl, r, names3, _, j, z, rfl, rfl, SqL.of upd_same, rfl, rfl, hj, hz, hno, ?_⟩
          rw [hcode, ← stN_new hp]
          exact ⟨_, rfl, s4.trans s5, s5 _ _ hD4, s5 _ _ hq4⟩
        · refine ⟨some (.ref ta), ?_, s4, hD4, hq4⟩
          rw [stN_skip (by simpa using hp)]
          rfl
      · rintro σ H4 ⟨v5, rfl, s4, hD4, hq4⟩
        have est : stN cs b (xs.drop b).length = code (lastC cs) := by
          have e1 : b + (xs.drop b).length = cs.length := by
            rw [List.length_drop, h3.len]
            omega
          unfold lastP at eL
          unfold stN lastC lastP
          rw [e1, eL, if_neg (by omega)]
        rw [est]
        -- _law_first
        refine ⟨_, rfl, D, rfl, ⟨_, SqL.of hD4⟩, fun D2 hD2' => ?_⟩
        have hD2H : H D2 = none := s4.free hD2'
        have nDD : D ≠ D2 := ne_of_none hD4 hD2'
        refine lc_list (K := K) (a := D) (xs := placeV isBid cs cs.length) (fun i H' => Same H H' ∧ H' D = some (.lst (placeV isBid cs cs.length)) ∧ H' D2 = some (.lst ((((plcN isBid cs cs.length).take i).filter (okAt m cs b)).map fun (i : Nat) => V.int (i : Int))))
          ⟨same_upd s4 hD2H, by rw [upd_ne nDD]; exact hD4, upd_same⟩ (fun i H' _ ⟨_, h, _⟩ => SqL.of h) ?_ ?_
        · rintro i x H5 hx ⟨s5, hD5, hE5⟩
          obtain ⟨j, hj, rfl⟩ : ∃ j : Nat, (plcN isBid cs cs.length)[i]? = some j ∧ x = V.int (j : Int) := by
            unfold placeV at hx
            rw [List.getElem?_map] at hx
            cases q : (plcN isBid cs cs.length)[i]? with
            | none => rw [q] at hx; cases hx
            | some j => rw [q] at hx; exact ⟨j, rfl, (Option.some.inj hx).symm⟩
          have hjm : j ∈ plcN isBid cs cs.length := List.mem_of_getElem? hj
          obtain ⟨hjn, hjb⟩ : j < cs.length ∧ isBid (cs.getD j .pass) = true := by
            unfold plcN at hjm
            rw [List.mem_filter, List.mem_range] at hjm
            exact hjm
          have hjc : cs[j]? = some (cs.getD j .pass) := by rw [List.getD_eq_getElem?_getD, List.getElem?_eq_getElem hjn]; rfl
          obtain ⟨kj, hkj⟩ : ∃ kj, cs.getD j .pass = .bid kj := by
            cases e : cs.getD j .pass with
            | bid kj => exact ⟨kj, rfl⟩
            | _ => rw [e] at hjb; cases hjb
          rw [hkj] at hjc
          obtain ⟨v, hv, ta, rfl, htup⟩ := h3.get hjc
          have okE : okAt m cs b j = (decide (kj % m = kk % m) && decide (((b : Int) - (j : Int)) % 2 = 0)) := by
            unfold okAt
            rw [hkj, hgb]
            rfl
          have eT := take_filt (p := okAt m cs b) hj
          have skip : okAt m cs b j = false → Same H H5 ∧ H5 D = some (.lst (placeV isBid cs cs.length)) ∧ H5 D2 = some (.lst ((((plcN isBid cs cs.length).take (i + 1)).filter (okAt m cs b)).map fun (i : Nat) => V.int (i : Int))) := fun e => by
            rw [eT, e, if_neg (by decide), List.append_nil]
            exact ⟨s5, hD5, hE5⟩
          refine ⟨rfl, _, rfl, _, rfl, l, _, _, _, rfl, rfl, SqL.of (s5 _ _ h2), atI_nat hv, ta, _, _, _, rfl, rfl, (htup.keep (Same.keep s5)).sq, atI_nat (j := 2) rfl, _, rfl, ab, _, _, _, rfl, rfl, (htb.keep (Same.keep s5)).sq, atI_nat (j := 2) rfl, rfl, _, rfl, ?_⟩
          rw [nat_eq]
          refine ite2 (fun hs1 => ?_) (fun hs1 => iteF (skip ?_))
          · refine ⟨_, rfl, _, rfl, D, _, _, _, rfl, rfl, SqL.of hD5, hlast, _, rfl, _, _, rfl, rfl, .inl ⟨_, rfl, _, _, rfl, rfl, (by show (0 : Int) < 2; decide), rfl, _, rfl, ?_⟩⟩
            rw [show decide (V.int (((b : Int) - (j : Int)) % 2) = V.int 0) = decide (((b : Int) - (j : Int)) % 2 = 0) by
              by_cases h : ((b : Int) - (j : Int)) % 2 = 0
              · rw [h]; rfl
              · rw [decide_eq_false h]; exact decide_eq_false fun q => h (V.int.inj q)]
            refine ite2 (fun hs2 => ?_) (fun hs2 => skip ?_)
            · refine ⟨_, rfl, _, hE5, ?_, same_upd s5 hD2H, by rw [upd_ne nDD]; exact hD5, ?_⟩
              · rw [List.length_map, sizeLine_eq]
                have l1 := List.length_filter_le (okAt m cs b) ((plcN isBid cs cs.length).take i)
                have l2 : ((plcN isBid cs cs.length).take i).length ≤ (plcN isBid cs cs.length).length := by rw [List.length_take]; omega
                have l3 := plcN_len isBid cs cs.length
                omega
              · rw [upd_same, eT, okE, hs1, hs2, List.map_append]
                rfl
            · rw [okE, Bool.eq_false_iff.mpr hs2, Bool.and_false]
          · rw [okE, Bool.eq_false_iff.mpr hs1, Bool.false_and]
        · rintro H5 ⟨s5, hD5, hE5⟩
          have eall : (plcN isBid cs cs.length).take (placeV isBid cs cs.length).length = plcN isBid cs cs.length := by
            refine List.take_of_length_le ?_
            unfold placeV
            rw [List.length_map]
            exact Nat.le_refl _
          rw [eall, filt_all] at hE5
          have hf0 : ((((List.range cs.length).filter (okAt m cs b)).map fun (i : Nat) => V.int (i : Int)))[0]? = some (V.int (firstAt m cs b : Int)) := by
            rw [List.getElem?_map, filt_head hbn (by rw [hgb]; rfl)]
            rfl
          refine ⟨D2, _, _, _, rfl, rfl, SqL.of hE5, atI_nat (j := 0) hf0, ?_⟩
          have htb5 := (htb.keep (Same.keep s5)).sq
          refine ⟨_, rfl, ab, _, _, _, rfl, rfl, htb5, atI_nat (j := 1) rfl, _, rfl, ab, _, _, _, rfl, rfl, htb5, atI_nat (j := 2) rfl, _, rfl, _, rfl, _, rfl, _, _, rfl, rfl, .inl ⟨_, rfl, _, _, rfl, rfl, (by show (0 : Int) < 4; decide), (by show 4 ≤ sizeLine; decide), fun t ht => ?_⟩⟩
          refine k1 [((kk / m + 1 : Nat) : Int), ((kk % m : Nat) : Int), code (lastC cs), (d + (firstAt m cs b : Int)) % 4] ?_ t _ (s5.free ht) (s5.trans (same_new ht)) upd_same
          unfold contr
          rw [if_neg (by rw [eb]; omega), eb]
          show some [((rank (cs.getD b .pass) / m + 1 : Nat) : Int), ((rank (cs.getD b .pass) % m : Nat) : Int), code (lastC cs), (d + (firstAt m cs b : Int)) % 4] = _
          rw [hgb]
          rfl
end
end K18

namespace K18
open PySem L2
/-- the rest of the text's defs -/
structure More (K : PySem.W.Frag) (mg : Str → Option Value) (C : Addr) (D : Defs K C) where
  fI : Addr
  fG : Addr
  fA : Addr
  fK : Addr
  fBi : Addr
  fN : Addr
  fPo : Addr
  fPi : Addr
  fLC : Addr
  dI : FuncData
  dG : FuncData
  dA : FuncData
  dK : FuncData
  dBi : FuncData
  dN : FuncData
  dPo : FuncData
  dPi : FuncData
  dLC : FuncData
  FI : Fun K "__init__" "Auction.__init__" sInit fI dI
  FG : Fun K "legal" "Auction.legal" sLegal fG dG
  FA : Fun K "call" "Auction.call" sCall fA dA
  FK : Fun K "contract" "Auction.contract" sContract fK dK
  FBi : Fun K "bids_of" "bids_of" sBids fBi dBi
  FN : Fun K "_law_numbers" "_law_numbers" sNumbers fN dN
  FPo : Fun K "_law_pool" "_law_pool" sPool fPo dPo
  FPi : Fun K "_law_pick" "_law_pick" sPick fPi dPi
  FLC : Fun K "_law_contract" "_law_contract" sLawContract fLC dLC
  bI : Binds K dI ["self", "suits", "size", "dealer"] []
  bG : Binds K dG ["self"] []
  bA : Binds K dA ["self", "call"] []
  bK : Binds K dK ["self"] []
  bBi : Binds K dBi ["suits", "size"] []
  bN : Binds K dN ["_law_script", "_law_first", "_law_most"] []
  bPo : Binds K dPo ["_law_script"] []
  bPi : Binds K dPi ["_law_pool_here", "_law_many"] []
  bLC : Binds K dLC ["_law_dealer", "_law_calls"] []
  hmk : Mk K C fI
  mG : Meth K C "legal" fG
  mA : Meth K C "call" fA
  mK : Meth K C "contract" fK
  mgS : mg "side_of" = some (.ref D.fS)
  mgBi : mg "bids_of" = some (.ref fBi)
  mgN : mg "_law_numbers" = some (.ref fN)
  mgPo : mg "_law_pool" = some (.ref fPo)
  mgPi : mg "_law_pick" = some (.ref fPi)
  mgLC : mg "_law_contract" = some (.ref fLC)

theorem same_but {H H1 H2 : Hp} {q : Addr} (s : Same H H1) (k : ∀ b o, H1 b = some o → b ≠ q → H2 b = some o) (h : H q = none) : Same H H2 := fun b o e => k b o (s b o e) (ne_of_none e h)
theorem calls_refs {K : PySem.W.Frag} {m : Nat} {H : Hp} {vs : List V} {cs : List Cl} (h : CallsAt K m H vs cs) : ∀ v, v ∈ vs → ∃ a, v = V.ref a := fun v hv => by
  obtain ⟨i, hi⟩ := List.getElem?_of_mem hv
  obtain ⟨_, a, e, _⟩ := h.get' hi
  exact ⟨a, e⟩
theorem calls_ne_int {K : PySem.W.Frag} {m : Nat} {H : Hp} {vs ws : List V} {cs : List Cl} (h : CallsAt K m H vs cs) {x : Int} (hx : V.int x ∈ ws) : HO.lst vs ≠ HO.lst ws := fun e => by
  have e' : vs = ws := HO.lst.inj e
  rw [← e'] at hx
  obtain ⟨a, q⟩ := calls_refs h _ hx
  cases q
theorem fl_inj {lb lb' lc lc' : Addr} {d d' : Int} (e : fl lb d lc = fl lb' d' lc') : lb = lb' := by
  have e3 : (fl lb d lc).lookup ("_bids" : Str) = (fl lb' d' lc').lookup ("_bids" : Str) := by rw [e]
  rw [fl_bids, fl_bids] at e3
  cases e3
  rfl
theorem ints_mem {ks : List Int} (h : 0 < ks.length) : ∃ x, V.int x ∈ ks.map V.int := by
  cases ks with
  | nil => cases h
  | cons x r => exact ⟨x, by simp⟩
section
variable {C : Addr} {K : PySem.W.Frag} {m B : Nat} {H H' : Hp} {p lc q : Addr} {d : Int} {cs : List Cl} {j : Nat}
theorem AucAt.pick (h : AucAt C K m B H p lc d cs) (hp : PoolAt H q j) (s : ∀ b o, H b = some o → b ≠ q → H' b = some o) : AucAt C K m B H' p lc d cs := by
  obtain ⟨l, ks, g1, g2, _⟩ := hp
  obtain ⟨dx, lb, bs, vs, h1, h2, h3, h4, h5, h6⟩ := id h
  have mem : V.int (j : Int) ∈ [V.ref l, V.int (j : Int)] := by simp
  refine h.but s g1 (ne_of h4 g1 (calls_ne_int h5 mem)) fun lb' dx' e => ?_
  rw [h1] at e
  have e2 : fl lb d lc = fl lb' d lc := by
    have := Option.some.inj e
    injection this
  rw [← fl_inj e2]
  exact ne_of h2 g1 (calls_ne_int h3 mem)
/-- .. all but a list at x that did not stand when the auction stood -/
theorem AucAt.other {H1 : Hp} {x : Addr} {xs : List V} (h : AucAt C K m B H p lc d cs) (n : H x = none) (s0 : Same H H1) (hx : H1 x = some (.lst xs)) (s : ∀ b o, H1 b = some o → b ≠ x → H' b = some o) : AucAt C K m B H' p lc d cs := by
  obtain ⟨dx, lb, bs, vs, h1, h2, h3, h4, h5, h6⟩ := id h
  refine (h.same s0).but s hx (ne_of_none h4 n) fun lb' dx' e => ?_
  rw [s0 _ _ h1] at e
  have e2 : fl lb d lc = fl lb' d lc := by
    have := Option.some.inj e
    injection this
  rw [← fl_inj e2]
  exact ne_of_none h2 n
theorem PoolAt.call (hp : PoolAt H q j) (h : AucAt C K m B H p lc d cs) (s : ∀ b o, H b = some o → b ≠ lc → H' b = some o) : PoolAt H' q j := by
  obtain ⟨l, ks, g1, g2, g3, g4⟩ := hp
  obtain ⟨dx, lb, bs, vs, h1, h2, h3, h4, h5, h6⟩ := h
  obtain ⟨x, hx⟩ := ints_mem g3
  exact ⟨l, ks, s _ _ g1 (ne_of h4 g1 (calls_ne_int h5 (x := j) (by simp))).symm, s _ _ g2 (ne_of h4 g2 (calls_ne_int h5 hx)).symm, g3, g4⟩
theorem CallsAt.pool {x : Addr} {vs : List V} (h : CallsAt K m H vs cs) (e : H x = some (.lst vs)) (hp : PoolAt H q j) : x ≠ q := by
  obtain ⟨l, ks, g1, _⟩ := hp
  exact ne_of e g1 (calls_ne_int h (x := j) (by simp))
theorem PoolAt.keep (hp : PoolAt H q j) (s : ∀ b o, H b = some o → b ≠ q → H' b = some o) : Keep H H' := by
  obtain ⟨l, ks, g1, _⟩ := hp
  exact keep_but g1 (fun _ q => by cases q) s
end
/-- what contract() hands back -/
def ContrAt (H : Hp) (v : V) : Option (List Int) → Prop
  | none => v = .non
  | some ys => ∃ t, v = .ref t ∧ H t = some (.tup (ys.map V.int))
def datC : Option (List Int) → PyData
  | none => .none
  | some ys => .tuple (ys.map fun y => PyData.int y)
theorem ContrAt.same {H H' : Hp} {v : V} {o : Option (List Int)} (h : ContrAt H v o) (s : Same H H') : ContrAt H' v o := by
  cases o with
  | none => exact h
  | some ys =>
    obtain ⟨t, e, g⟩ := h
    exact ⟨t, e, s _ _ g⟩
theorem ContrAt.dp {K : PySem.W.Frag} {H : Hp} {v : V} {o : Option (List Int)} (h : ContrAt H v o) : Dp K H v (datC o) := by
  cases o with
  | none =>
    have e : v = .non := h
    subst e
    exact .non
  | some ys =>
    obtain ⟨t, rfl, g⟩ := h
    exact .tup (SqT.of g) (ints_dp (fun y => y) ys)
theorem ints_shapedT (ys : List Int) : SeqAt.shaped (.tuple (ys.map fun y => PyData.int y)) = true := by
  have h := ints_shaped (fun y : Int => y) ys
  have e : SeqAt.shaped (.tuple (ys.map fun y => PyData.int y)) = SeqAt.shaped (.list (ys.map fun y => PyData.int y)) := by
    unfold SeqAt.shaped
    simp only [PyData.canLay0, PyData.depth]
    rfl
  rw [e]
  exact h
theorem datC_shaped (o : Option (List Int)) : SeqAt.shaped (datC o) = true := by
  cases o with
  | none => show SeqAt.shaped .none = true; decide +kernel
  | some ys => exact ints_shapedT ys
theorem ints_eqv (ys : List Int) : PyData.eqv (.tuple (ys.map fun y => PyData.int y)) (.tuple (ys.map fun y => PyData.int y)) = true := by
  have h : ∀ ys : List Int, PyData.eqvAll (ys.map fun y => PyData.int y) (ys.map fun y => PyData.int y) = true := fun ys => by
    induction ys with
    | nil => simp [PyData.eqvAll]
    | cons y ys ih => simp only [List.map_cons, PyData.eqvAll, PyData.eqv, ih, BEq.rfl, Bool.and_self]
  simp only [PyData.eqv]
  exact h ys
theorem datC_eqv (o : Option (List Int)) : PyData.eqv (datC o) (datC o) = true := by
  cases o with
  | none => show PyData.eqv .none .none = true; simp [PyData.eqv]
  | some ys => exact ints_eqv ys
theorem contr_k {Q : VK} {H : Hp} {o : Option (List Int)} (k : ∀ v H', Same H H' → ContrAt H' v o → Q v H') :
    (o = none → ∀ H', Same H H' → Q .non H') ∧ ∀ xs, o = some xs → ∀ (t : Addr) (H' : Hp), H t = none → Same H H' → H' t = some (.tup (xs.map V.int)) → Q (.ref t) H' :=
  ⟨fun e H' s => k .non H' s (by rw [e]; rfl), fun xs e t H' _ s g => k (.ref t) H' s (by rw [e]; exact ⟨t, rfl, g⟩)⟩
theorem contr_four {m : Nat} {d : Int} {cs : List Cl} {ys : List Int} (h : contr m d cs = some ys) : ∃ a b c e, ys = [a, b, c, e] := by
  unfold contr at h
  split at h
  · cases h
  · exact ⟨_, _, _, _, (Option.some.inj h).symm⟩
theorem eqv_nil (m : Nat) (cs : List Cl) : PyData.eqv (.list (cs.map (dat m))) (.list []) = decide (cs = []) := by
  cases cs with
  | nil => simp [PyData.eqv, PyData.eqvAll]
  | cons c cs => simp [PyData.eqv, PyData.eqvAll]
theorem most_eq (s z : Nat) : (4 : Int) + 9 * ((z : Int) - (z : Int) / 2) * ((s : Int) + 1) = ((4 + 9 * bidsOf s z : Nat) : Int) := by
  have e : (z : Int) - (z : Int) / 2 = ((z - z / 2 : Nat) : Int) := by omega
  rw [e]
  unfold bidsOf
  generalize z - z / 2 = t
  rw [Int.natCast_add, Int.natCast_mul, Int.natCast_mul, Int.natCast_add, Int.mul_assoc]
  rfl
theorem cut3 (a b c e : V) : cutV [a, b, c, e] none (some (3 : Int)) = [a, b, c] := by
  unfold cutV
  rw [HT.sIx_none, show (3 : Int) = ((3 : Nat) : Int) from rfl, HT.sIx_nat]
  rfl
theorem bids_small {s z : Nat} (hs : s ≤ 3) (hz : z ≤ 5) : bidsOf s z ≤ 12 := by
  unfold bidsOf
  have h : (z - z / 2) * (s + 1) ≤ 3 * 4 := Nat.mul_le_mul (by omega) (by omega)
  omega
end K18

namespace K18
open PySem L2
def spLaw (K : PySem.W.Frag) : Sp := fun vs H Q _ => ∃ (a : Addr) (ns : List Int), vs = [.ref a] ∧ SqL K H a (ns.map V.int) ∧ ns.length ≤ 63 ∧ ∀ H', Q (.bl true) H'
/-- the two contracts' promises by what is handed back -/
def spContract2 (C : Addr) (K : PySem.W.Frag) : Sp := fun vs H Q _ => ∃ (m B : Nat) (p lc : Addr) (d : Int) (cs : List Cl), vs = [.ref p] ∧ 0 < m ∧ AucAt C K m B H p lc d cs ∧ Sit B cs ∧ B ≤ 100 ∧ over cs = true ∧
  ∀ v H', Same H H' → ContrAt H' v (contr m d cs) → Q v H'
def spLawContract2 (K : PySem.W.Frag) : Sp := fun vs H Q _ => ∃ (m B : Nat) (d : Int) (l : Addr) (xs : List V) (cs : List Cl), vs = [.int d, .ref l] ∧ 0 < m ∧ H l = some (.lst xs) ∧ CallsAt K m H xs cs ∧ Sit B cs ∧ B ≤ 100 ∧
  ∀ v H', Same H H' → ContrAt H' v (contr m d cs) → Q v H'
theorem imp_contract {C : Addr} {K : PySem.W.Frag} : ∀ vs H Q E, spContract2 C K vs H Q E → spContract C K vs H Q E := fun vs H Q E ⟨m, B, p, lc, d, cs, h1, h2, h3, h4, h5, h6, k⟩ =>
  ⟨m, B, p, lc, d, cs, h1, h2, h3, h4, h5, h6, contr_k k⟩
theorem imp_lawcontract {K : PySem.W.Frag} : ∀ vs H Q E, spLawContract2 K vs H Q E → spLawContract K vs H Q E := fun vs H Q E ⟨m, B, d, l, xs, cs, h1, h2, h3, h4, h5, h6, k⟩ =>
  ⟨m, B, d, l, xs, cs, h1, h2, h3, h4, h5, h6, contr_k k⟩
abbrev nLaw : List Str := ["_law_script", "_law_pool_here", "_law_suits", "_law_size", "_law_dealer", "_law_auction", "_law_most", "_law_k", "_law_legal", "_law_call", "_law_calls", "_law_by", "_law_again", "_law_first", "_law_second"]
section
variable {P : Program} {w : World} {K : PySem.W.Frag} {mg : Str → Option Value} {base : Heap}
theorem scLaw : FnScope nLaw ["_law_script"] (defScope sLaw) := ⟨rfl, rfl, rfl, by decide +kernel, rfl, by decide +kernel, by decide +kernel⟩
set_option maxHeartbeats 4000000 in
theorem ok_law {f C aP aD aR : Addr} {fd : FuncData} (F : Fun K "law" "law" sLaw f fd) (T : Txt K mg C aP aD aR) (D : Defs K C) (M : More K mg C D) : FnOk P w K mg base CX0 5 f fd ["_law_script"] (spLaw K) := by
  have GO : FnOk P w K mg base CX0 2 D.fO D.dO ["self"] (spOver C K) := ok_over D T
  have GC : FnOk P w K mg base CX0 1 D.fC D.dC ["self"] (spCalls C) := ok_calls D.FC T
  have GI : FnOk P w K mg base CX0 2 M.fI M.dI ["self", "suits", "size", "dealer"] (spInit C K) := ok_init M.FI T M.FBi M.bBi M.mgBi
  have GG : FnOk P w K mg base CX0 3 M.fG M.dG ["self"] (spLegal C K) := ok_legal M.FG D T M.mgS
  have GA : FnOk P w K mg base CX0 4 M.fA M.dA ["self", "call"] (spCall C K) := ok_call M.FA D T M.mgS M.FG M.bG M.mG
  have GK : FnOk P w K mg base CX0 3 M.fK M.dK ["self"] (spContract2 C K) := (ok_contract M.FK D T M.mgS).imp imp_contract
  have GPo : FnOk P w K mg base CX0 2 M.fPo M.dPo ["_law_script"] (spPool K) := ok_pool M.FPo T M.FN M.bN M.mgN
  have GPi : FnOk P w K mg base CX0 1 M.fPi M.dPi ["_law_pool_here", "_law_many"] spPick := ok_pick M.FPi T
  have GLC : FnOk P w K mg base CX0 1 M.fLC M.dLC ["_law_dealer", "_law_calls"] (spLawContract2 K) := (ok_lawcontract M.FLC T).imp imp_lawcontract
  refine F.ok scLaw (fun vs H Q E h => ?_) (fun cdv A outer s H vs Q E hr h => ?_)
  · obtain ⟨a, ns, rfl, _⟩ := h
    rfl
  · obtain ⟨a, ns, rfl, hS, hlen, k⟩ := h
    have hr1 : Room 1 _ := hr.mono (by decide)
    have hr2 : Room 2 _ := hr.mono (by decide)
    have hr3 : Room 3 _ := hr.mono (by decide)
    refine ⟨_, pss_cons (ps_set (i := 1) scLaw.nd rfl (Or.inl rfl) (pe_call GPo hr2 (by rfl) M.mgPo M.FPo.kp M.bPo .nil pass0 (pa_cons (pv 0) pa_nil)))
      (C8.pss_cut (ps_set (i := 2) scLaw.nd rfl (Or.inl rfl) (pe_op op_add pe_int (pe_call GPi hr1 (by rfl) M.mgPi M.FPi.kp M.bPi .nil pass0 (pa_cons (pv 1) (pa_cons pe_int pa_nil)))))
      (C8.pss_cut (ps_set (i := 3) scLaw.nd rfl (Or.inl rfl) (pe_op op_add pe_int (pe_call GPi hr1 (by rfl) M.mgPi M.FPi.kp M.bPi .nil pass0 (pa_cons (pv 1) (pa_cons pe_int pa_nil)))))
      (pss_cons (ps_set (i := 4) scLaw.nd rfl (Or.inl rfl) (pe_call GPi hr1 (by rfl) M.mgPi M.FPi.kp M.bPi .nil pass0 (pa_cons (pv 1) (pa_cons pe_int pa_nil))))
      (pss_cons (ps_set (i := 5) scLaw.nd rfl (Or.inl rfl) (pe_make M.hmk GI hr3 (by rfl) T.mgC M.bI .nil pass0 (pa_cons (pv 2) (pa_cons (pv 3) (pa_cons (pv 4) pa_nil)))))
      (C8.pss_cut (ps_set (i := 6) scLaw.nd rfl (Or.inl rfl) (pe_op op_add pe_int (pe_op op_mul (pe_op op_mul pe_int (pe_op op_sub (pv 3) (pe_op op_fdiv (pv 3) pe_int))) (pe_op op_add (pv 2) pe_int))))
      (C8.pss_cut (ps_for PassesOwn.never rfl (pi_range1 (by rfl) T.range (pa_cons (pe_op op_add (pv 6) pe_int) pa_nil)) (pg_name (i := 7) scLaw.nd rfl (Or.inl rfl))
        (pss_cons (ps_set (i := 8) scLaw.nd rfl (Or.inl rfl) (pe_meth0 (pv 5) T.cl M.mG GG hr3 M.bG .nil pass0))
        (pss_cons (ps_if (pt_cmpR op_ne (pe_cmpR (op_eqD hr.units) (pv 8) (pe_lst pa_nil) (nomark _)) (pe_meth0 (pv 5) T.cl D.mO GO hr2 D.bO .nil pass0) (nomark _)) (pss_one (ps_ret pe_bl)) pss_nil)
        (pss_one (ps_if (pt_cmpR (op_neD hr.units) (pv 8) (pe_lst pa_nil) (nomark _))
          (pss_cons (ps_set (i := 9) scLaw.nd rfl (Or.inl rfl) (pe_ix ix_list (pv 8) (pe_call GPi hr1 (by rfl) M.mgPi M.FPi.kp M.bPi .nil pass0 (pa_cons (pv 1) (pa_cons (pe_callB call_len_seq (by rfl) T.len PySem.boot_len (pa_cons (pv 8) pa_nil)) pa_nil))) (fun _ _ => rfl)))
          (C8.pss_cut (ps_if (pt_cmpR op_eq (pe_call GPi hr1 (by rfl) M.mgPi M.FPi.kp M.bPi .nil pass0 (pa_cons (pv 1) (pa_cons pe_int pa_nil))) pe_int (nomark _))
            (pss_one (ps_set (i := 9) scLaw.nd rfl (Or.inl rfl) (pe_ix ix_list (pv 8) (pe_callB (call_min2 rfl) (by rfl) T.min (by decide +kernel) (pa_cons (pe_op op_sub (pe_callB call_len_seq (by rfl) T.len PySem.boot_len (pa_cons (pv 8) pa_nil)) pe_int)
              (pa_cons (pe_call GPi hr1 (by rfl) M.mgPi M.FPi.kp M.bPi .nil pass0 (pa_cons (pv 1) (pa_cons pe_int pa_nil))) pa_nil))) (fun _ _ => rfl)))) pss_nil)
          (pss_one (ps_expr (pe_meth (pv 5) T.cl M.mA GA hr M.bA .nil pass0 (pa_cons (pv 9) pa_nil))))))
          pss_nil)))))
      (pss_cons (ps_set (i := 10) scLaw.nd rfl (Or.inl rfl) (pe_meth0 (pv 5) T.cl D.mC GC hr1 D.bC .nil pass0))
      (C8.pss_cut (ps_if (PW.pt (pw_or (pt_not (pt_val (pe_meth0 (pv 5) T.cl D.mO GO hr2 D.bO .nil pass0))) (pw_or (pt_cmpR op_gt (pe_callB call_len_seq (by rfl) T.len PySem.boot_len (pa_cons (pv 10) pa_nil)) (pv 6) (nomark _))
          (pw_or1 (pt_cmpR (op_neD hr.units) (pe_meth0 (pv 5) T.cl M.mK GK hr3 M.bK .nil pass0) (pe_call GLC hr1 (by rfl) M.mgLC M.FLC.kp M.bLC .nil pass0 (pa_cons (pv 4) (pa_cons (pv 10) pa_nil))) (nomark _)))))) (pss_one (ps_ret pe_bl)) pss_nil)
      (pss_cons (ps_set (i := 11) scLaw.nd rfl (Or.inl rfl) (pe_op op_add pe_int (pe_call GPi hr1 (by rfl) M.mgPi M.FPi.kp M.bPi .nil pass0 (pa_cons (pv 1) (pa_cons pe_int pa_nil)))))
      (pss_cons (ps_set (i := 12) scLaw.nd rfl (Or.inl rfl) (pe_make M.hmk GI hr3 (by rfl) T.mgC M.bI .nil pass0 (pa_cons (pv 2) (pa_cons (pv 3) (pa_cons (pe_op op_mod (pe_callTy call_int1 (by rfl) T.int (by decide +kernel) (pa_cons (pe_op op_add (pv 4) (pv 11)) pa_nil)) pe_int) pa_nil)))))
      (C8.pss_cut (ps_for PassesOwn.never rfl (pi_list (pv 10)) (pg_name (i := 9) scLaw.nd rfl (Or.inl rfl))
        (pss_one (ps_expr (pe_meth (pv 12) T.cl M.mA GA hr M.bA .nil pass0 (pa_cons (pv 9) pa_nil)))))
      (pss_cons (ps_set (i := 13) scLaw.nd rfl (Or.inl rfl) (pe_meth0 (pv 5) T.cl M.mK GK hr3 M.bK .nil pass0))
      (pss_cons (ps_set (i := 14) scLaw.nd rfl (Or.inl rfl) (pe_meth0 (pv 12) T.cl M.mK GK hr3 M.bK .nil pass0))
      (pss_cons (ps_if (pt_cmpR op_isN (pv 13) pe_non (nomark _)) (pss_one (ps_ret (pe_cmpR op_isN (pv 14) pe_non (nomark _)))) pss_nil)
      (pss_one (ps_ret (pe_cmpR (op_eqD hr.units) (pv 14) (pe_op op_catT (pe_slice sl_tup (pv 13) po_none (po_some pe_int))
        (pe_tup (pa_cons (pe_op op_mod (pe_callTy call_int1 (by rfl) T.int (by decide +kernel) (pa_cons (pe_op op_add (pe_ix ix_tup (pv 13) pe_int (fun _ _ => rfl)) (pv 11)) pa_nil)) pe_int) pa_nil))) (nomark _)))))))))))))))))), ?_⟩
    -- _law_pool_here
    refine ⟨_, rfl, a, ns, rfl, hS, hlen, fun q H1 nq s1 hP1 => ?_⟩
    -- _law_suits
    refine ⟨fun σ' H' => ∃ s : Nat, σ' = [some (.ref a), some (.ref q), some (.int (s : Int)), none, none, none, none, none, none, none, none, none, none, none, none] ∧ s ≤ 3 ∧ Same H H' ∧ PoolAt H' q 1, ?_, ?_⟩
    · refine ⟨_, rfl, q, 0, 3, rfl, by decide, by decide, hP1, fun r H2 r0 r1 hP2 k2 => ⟨_, _, rfl, rfl, (1 + r).toNat, ?_, by omega, same_but s1 k2 nq, hP2⟩⟩
      rw [show (((1 + r).toNat : Nat) : Int) = 1 + r by omega]
      rfl
    rintro σ2 H2 ⟨s', rfl, hs3, s2, hP2⟩
    -- _law_size
    refine ⟨fun σ' H' => ∃ z : Nat, σ' = [some (.ref a), some (.ref q), some (.int (s' : Int)), some (.int (z : Int)), none, none, none, none, none, none, none, none, none, none, none] ∧ z ≤ 5 ∧ Same H H' ∧ PoolAt H' q 2, ?_, ?_⟩
    · refine ⟨_, rfl, q, 1, 5, rfl, by decide, by decide, hP2, fun r H3 r0 r1 hP3 k3 => ⟨_, _, rfl, rfl, (1 + r).toNat, ?_, by omega, same_but s2 k3 nq, hP3⟩⟩
      rw [show (((1 + r).toNat : Nat) : Int) = 1 + r by omega]
      rfl
    rintro σ3 H3 ⟨z, rfl, hz5, s3, hP3⟩
    -- _law_dealer
    refine ⟨_, rfl, q, 2, 4, rfl, by decide, by decide, hP3, fun d H4 d0 d1 hP4 k4 => ?_⟩
    have s4 : Same H H4 := same_but s3 k4 nq
    -- _law_auction
    refine ⟨_, rfl, _, rfl, _, rfl, fun p dx np ndx nex => ?_⟩
    have sm : Same H4 (upd (upd H4 dx (.own p)) p (.ins C dx [])) := fun b o e => by
      rw [upd_ne (ne_of_none e np), upd_ne (ne_of_none e ndx)]
      exact e
    refine ⟨p, dx, s', z, d, rfl, by omega, by omega, upd_same, fun lc H5 nlc hA5 k5 _ => ⟨rfl, ?_⟩⟩
    have s45 : Same H4 H5 := fun b o e => k5 b o (sm b o e) (ne_of_none e np)
    have s5 : Same H H5 := s4.trans s45
    have hP5 : PoolAt H5 q 3 := hP4.same s45
    have nlcH : H lc = none := s4.free (sm.free nlc)
    have hm : 0 < s' + 1 := Nat.succ_pos _
    have hB12 : bidsOf s' z ≤ 12 := bids_small hs3 hz5
    -- _law_most
    refine ⟨fun σ' H' => σ' = [some (.ref a), some (.ref q), some (.int (s' : Int)), some (.int (z : Int)), some (.int d), some (.ref p), some (.int ((4 + 9 * bidsOf s' z : Nat) : Int)), none, none, none, none, none, none, none, none] ∧ H' = H5, ?_, ?_⟩
    · refine ⟨_, rfl, _, rfl, _, _, rfl, rfl, ⟨by decide, by decide⟩, _, _, rfl, rfl, _, _, rfl, rfl, .inl ⟨by decide, by decide⟩, _, rfl, _, _, rfl, rfl, _, _, rfl, rfl, .inl ⟨by omega, by omega⟩, _, _, rfl, rfl, ?_, rfl⟩
      rw [← most_eq]
      rfl
    rintro σ5 H5' ⟨rfl, rfl⟩
    generalize hBe : bidsOf s' z = B at hA5 hB12
    generalize hme : s' + 1 = m at hA5 hm
    -- the loop
    refine ⟨fun σ' H' => ∃ (cs : List Cl) (j : Nat) (v7 v8 v9 : Option V), σ' = [some (.ref a), some (.ref q), some (.int (s' : Int)), some (.int (z : Int)), some (.int d), some (.ref p), some (.int ((4 + 9 * B : Nat) : Int)), v7, v8, v9, none, none, none, none, none] ∧ Same H H' ∧ PoolAt H' q j ∧ j ≤ 10000 ∧ AucAt C K m B H' p lc d cs ∧ Valid B cs ∧ over cs = true, ?_, ?_⟩
    · refine ⟨_, rfl, _, _, rfl, rfl, _, rfl, by omega, by omega, ?_⟩
      rw [show (((4 + 9 * B : Nat) : Int) + 1).toNat = 5 + 9 * B by omega]
      refine for_range (lo := 0) (n := 5 + 9 * B) (fun i σ' H' => ∃ (cs : List Cl) (j : Nat) (v7 v8 v9 : Option V), σ' = [some (.ref a), some (.ref q), some (.int (s' : Int)), some (.int (z : Int)), some (.int d), some (.ref p), some (.int ((4 + 9 * B : Nat) : Int)), v7, v8, v9, none, none, none, none, none] ∧ Same H H' ∧ PoolAt H' q j ∧ j ≤ 3 + 3 * i ∧ AucAt C K m B H' p lc d cs ∧ Valid B cs ∧ (over cs = true ∨ cs.length = i))
        ⟨[], 3, none, none, none, rfl, s5, hP5, by omega, hA5, .nil, .inr rfl⟩ ?_ ?_
      · rintro i σ6 H6 hi ⟨cs, j, v7, v8, v9, rfl, s6, hP6, hj, hA6, hV, hov⟩
        have hsit := valid_sit hV
        obtain ⟨dxp, lb, bs, xs, g1, _, _, g2, g3, _⟩ := id hA6
        have hn : cs.length ≤ 1000 := by
          have := sit_len hsit
          omega
        -- _law_legal
        refine ⟨_, rfl, p, dxp, _, rfl, g1, no_legal, m, B, p, lc, d, cs, rfl, hm, hA6, hsit, by omega, fun l ls H7 nl s67 hl hls => ?_⟩
        -- (legal == []) != is_over
        refine ⟨_, rfl, Nat.zero_le _, fun e he => ?_⟩
        have hle : (upd H7 e (.lst [])) l = some (.lst ls) := by rw [upd_ne (ne_of_none hl he)]; exact hl
        have s7e : Same H7 (upd H7 e (.lst [])) := same_new he
        have s6e : Same H6 (upd H7 e (.lst [])) := s67.trans s7e
        refine ⟨.list ((legalL B cs).map (dat m)), .list [], .lst (SqL.of hle) (hls.keep (Same.keep s7e)).dps, .lst (SqL.of upd_same) .nil, dats_shaped _ _, nil_shaped, ?_⟩
        refine ⟨_, rfl, p, dxp, _, rfl, s6e _ _ g1, no_over, m, p, dxp, lb, lc, d, xs, cs, rfl, hm, s6e _ _ g1, s6e _ _ g2, g3.keep (Same.keep s6e), hn, fun H8 se8 => ⟨rfl, _, rfl, ?_⟩⟩
        have eqo : PyData.eqv (.list ((legalL B cs).map (dat m))) (.list []) = over cs := by
          rw [eqv_nil, Bool.eq_iff_iff, decide_eq_true_iff, legalL_nil]
        rw [eqo]
        refine iteNS rfl ?_
        -- legal != []
        have s68 := s6e.trans se8
        have hl8 := se8 _ _ hle
        have hls8 := (hls.keep (Same.keep s7e)).keep (Same.keep se8)
        refine ⟨_, rfl, Nat.zero_le _, fun e2 he2 => ?_⟩
        have s89 : Same H8 (upd H8 e2 (.lst [])) := same_new he2
        have hl9 := s89 _ _ hl8
        have hls9 := hls8.keep (Same.keep s89)
        have s69 := s68.trans s89
        refine ⟨.list ((legalL B cs).map (dat m)), .list [], .lst (SqL.of hl9) hls9.dps, .lst (SqL.of upd_same) .nil, dats_shaped _ _, nil_shaped, _, rfl, ?_⟩
        rw [eqo]
        cases hov' : over cs with
        | true =>
          rw [Bool.not_true]
          exact iteF ⟨cs, j, _, _, _, rfl, s6.trans s69, hP6.same s69, by omega, hA6.same s69, hV, .inl hov'⟩
        | false =>
          rw [Bool.not_false]
          have hi' : cs.length = i := by
            rcases hov with h | h
            · rw [hov'] at h
              cases h
            · exact h
          have s9 := s6.trans s69
          have hP9 := hP6.same s69
          have hA9 := hA6.same s69
          have hL0 : 0 < (legalL B cs).length := by
            cases e : legalL B cs with
            | nil =>
              rw [legalL_nil.mp e] at hov'
              cases hov'
            | cons c r => exact Nat.succ_pos _
          have pickable : ∀ {H' : Hp} {r : Int}, CallsAt K m H' ls (legalL B cs) → 0 ≤ r → r < (ls.length : Int) → ∃ v c, atI ls r = some v ∧ CallAt K m H' v c ∧ c ∈ legalL B cs := fun {H' r} hc h0 h1 => by
            have hlt : r.toNat < (legalL B cs).length := by
              rw [← hc.len]
              omega
            obtain ⟨v, hv, hcv⟩ := hc.get (List.getElem?_eq_getElem hlt)
            exact ⟨v, _, at_of (j := r.toNat) (by omega) hv, hcv, List.getElem_mem hlt⟩
          have hlen9 : 0 < (ls.length : Int) := by
            rw [hls9.len]
            omega
          -- _law_call = _law_legal[..]
          refine iteT ⟨_, rfl, _, rfl, _, rfl, l, _, rfl, .inl (SqL.of hl9), q, j, (ls.length : Int), rfl, hlen9, by omega, hP9, fun r H10 r0 r1 hP10 k10 => ?_⟩
          have hl10 : H10 l = some (.lst ls) := k10 _ _ hl9 (CallsAt.pool hls9 hl9 hP9)
          have hls10 := hls9.keep (hP9.keep k10)
          have hA10 := hA9.pick hP9 k10
          have s10 : Same H H10 := same_but s9 k10 nq
          obtain ⟨v, c, hv, hcv, hc⟩ := pickable hls10 r0 r1
          refine ⟨l, ls, _, v, rfl, rfl, SqL.of hl10, hv, ?_⟩
          refine ⟨fun σ' H' => ∃ (v : V) (c : Cl) (j' : Nat), σ' = [some (.ref a), some (.ref q), some (.int (s' : Int)), some (.int (z : Int)), some (.int d), some (.ref p), some (.int ((4 + 9 * B : Nat) : Int)), some (.int (0 + (i : Int))), some (.ref l), some v, none, none, none, none, none] ∧ Same H H' ∧ PoolAt H' q j' ∧ j' ≤ j + 3 ∧ AucAt C K m B H' p lc d cs ∧ CallAt K m H' v c ∧ c ∈ legalL B cs, ?_, ?_⟩
          · refine ⟨_, rfl, q, j + 1, 2, rfl, by decide, by omega, hP10, fun r2 H11 _ _ hP11 k11 => ⟨rfl, _, rfl, ?_⟩⟩
            have hl11 : H11 l = some (.lst ls) := k11 _ _ hl10 (CallsAt.pool hls10 hl10 hP10)
            have hls11 := hls10.keep (hP10.keep k11)
            have hA11 := hA10.pick hP10 k11
            have s11 : Same H H11 := same_but s10 k11 nq
            refine ite2 (fun _ => ?_) (fun _ => ⟨v, c, j + 1 + 1, rfl, s11, hP11, by omega, hA11, hcv.keep (hP10.keep k11), hc⟩)
            refine ⟨_, rfl, _, rfl, l, _, rfl, .inl (SqL.of hl11), _, _, rfl, rfl, _, rfl, q, j + 1 + 1, 3, rfl, by decide, by omega, hP11, fun r3 H12 r30 _ hP12 k12 => ⟨_, _, rfl, ?_⟩⟩
            have hl12 : H12 l = some (.lst ls) := k12 _ _ hl11 (CallsAt.pool hls11 hl11 hP11)
            have hls12 := hls11.keep (hP11.keep k12)
            have hA12 := hA11.pick hP11 k12
            have s12 : Same H H12 := same_but s11 k12 nq
            obtain ⟨v', c', hv', hcv', hc'⟩ := pickable (r := if r3 < (ls.length : Int) - 1 then r3 else (ls.length : Int) - 1) hls12 (by split <;> omega) (by split <;> omega)
            exact ⟨l, ls, _, v', rfl, rfl, SqL.of hl12, hv', v', c', j + 1 + 1 + 1, rfl, s12, hP12, by omega, hA12, hcv', hc'⟩
          · rintro σ12 H12 ⟨v, c, j', rfl, s12, hP12, hj', hA12, hcv, hc⟩
            obtain ⟨dx12, lb12, _, _, g12, _⟩ := id hA12
            refine ⟨_, rfl, p, dx12, _, rfl, g12, no_call, _, rfl, m, B, p, lc, d, cs, v, c, rfl, hm, hA12, hsit, by omega, hcv, hc, fun H13 hA13 k13 => ?_⟩
            exact ⟨cs ++ [c], j', _, _, _, rfl, same_but s12 k13 nlcH, hP12.call hA12 k13, by omega, hA13, .snoc hV hc, .inr (by rw [List.length_append, List.length_singleton, hi'])⟩
      · rintro σ6 H6 ⟨cs, j, v7, v8, v9, rfl, s6, hP6, hj, hA6, hV, hov⟩
        refine ⟨cs, j, v7, v8, v9, rfl, s6, hP6, by omega, hA6, hV, ?_⟩
        rcases hov with h | h
        · exact h
        · have := sit_len (valid_sit hV)
          omega
    rintro σ6 H6 ⟨cs, j, v7, v8, v9, rfl, s6, hP6, hj, hA6, hV, hov⟩
    have hsit := valid_sit hV
    obtain ⟨dxp, lb, bs, xs, g1, _, _, g2, g3, _⟩ := id hA6
    have hlenB := sit_len hsit
    have hn : cs.length ≤ 1000 := by omega
    -- _law_calls
    refine ⟨_, rfl, p, dxp, _, rfl, g1, no_calls, p, dxp, lb, lc, d, xs, rfl, g1, g2, fun lcs nlcs => ?_⟩
    have s67 : Same H6 (upd H6 lcs (.lst xs)) := same_new nlcs
    have hlcs7 : (upd H6 lcs (.lst xs)) lcs = some (.lst xs) := upd_same
    generalize (upd H6 lcs (.lst xs)) = H7 at s67 hlcs7
    have hA7 := hA6.same s67
    have hc7 := g3.keep (Same.keep s67)
    refine ⟨fun σ' H' => σ' = [some (.ref a), some (.ref q), some (.int (s' : Int)), some (.int (z : Int)), some (.int d), some (.ref p), some (.int ((4 + 9 * B : Nat) : Int)), v7, v8, v9, some (.ref lcs), none, none, none, none] ∧ Same H7 H', ?_, ?_⟩
    · refine ⟨_, rfl, p, dxp, _, rfl, s67 _ _ g1, no_over, m, p, dxp, lb, lc, d, xs, cs, rfl, hm, s67 _ _ g1, s67 _ _ g2, hc7, hn, fun H8 s8 => ⟨_, rfl, ?_⟩⟩
      rw [hov]
      refine iteF ⟨_, rfl, lcs, _, rfl, .inl (SqL.of (s8 _ _ hlcs7)), _, rfl, _, _, rfl, rfl, _, rfl, ?_⟩
      rw [decide_eq_false (show ¬ ((4 + 9 * B : Nat) : Int) < (xs.length : Int) by rw [g3.len]; omega)]
      refine iteF ?_
      obtain ⟨dx8, _, _, _, g8, _⟩ := id (hA7.same s8)
      refine ⟨_, rfl, p, dx8, _, rfl, g8, no_contract, m, B, p, lc, d, cs, rfl, hm, hA7.same s8, hsit, by omega, hov, fun v1 H9 s9 hv1 => ?_⟩
      have s79 := s8.trans s9
      refine ⟨_, rfl, _, rfl, m, B, d, lcs, xs, cs, rfl, hm, s79 _ _ hlcs7, hc7.keep (Same.keep s79), hsit, by omega, fun v2 H10 s10 hv2 => ?_⟩
      refine ⟨datC (contr m d cs), datC (contr m d cs), (hv1.same s10).dp, hv2.dp, datC_shaped _, datC_shaped _, _, rfl, ?_⟩
      rw [datC_eqv]
      exact iteF ⟨rfl, s79.trans s10⟩
    rintro σ8 H8 ⟨rfl, s78⟩
    have s68 := s67.trans s78
    have hP8 := hP6.same s68
    have hA8 := hA7.same s78
    have hc8 := hc7.keep (Same.keep s78)
    have hlcs8 := s78 _ _ hlcs7
    -- _law_by
    refine ⟨_, rfl, q, j, 3, rfl, by decide, by omega, hP8, fun r H9 r0 r1 hP9 k9 => ⟨_, _, rfl, rfl, ?_⟩⟩
    have hA9 := hA8.pick hP8 k9
    have hc9 := hc8.keep (hP8.keep k9)
    have hlcs9 : H9 lcs = some (.lst xs) := k9 _ _ hlcs8 (CallsAt.pool hc8 hlcs8 hP8)
    -- _law_again
    refine ⟨_, rfl, _, rfl, _, rfl, _, rfl, _, _, rfl, rfl, .inl ⟨_, rfl, _, _, rfl, rfl, (by show (0 : Int) < 4; decide), fun p2 dx2 np2 ndx2 nex2 => ?_⟩⟩
    have sm2 : Same H9 (upd (upd H9 dx2 (.own p2)) p2 (.ins C dx2 [])) := fun b o e => by
      rw [upd_ne (ne_of_none e np2), upd_ne (ne_of_none e ndx2)]
      exact e
    refine ⟨p2, dx2, s', z, (d + (1 + r)) % 4, rfl, by omega, by omega, upd_same, fun lc2 H10 nlc2 hA10 k10 _ => ⟨rfl, ?_⟩⟩
    rw [hBe, hme] at hA10
    have s910 : Same H9 H10 := fun b o e => k10 b o (sm2 b o e) (ne_of_none e np2)
    have nlc29 : H9 lc2 = none := sm2.free nlc2
    have hlcs10 := s910 _ _ hlcs9
    have hc10 := hc9.keep (Same.keep s910)
    have nlcs2 : lcs ≠ lc2 := ne_of_none hlcs9 nlc29
    obtain ⟨_, _, _, vs2, _, _, _, hlc210, _, _⟩ := id hA10
    -- the same calls again
    refine ⟨fun σ' H' => ∃ v9' : Option V, σ' = [some (.ref a), some (.ref q), some (.int (s' : Int)), some (.int (z : Int)), some (.int d), some (.ref p), some (.int ((4 + 9 * B : Nat) : Int)), v7, v8, v9', some (.ref lcs), some (.int (1 + r)), some (.ref p2), none, none] ∧ (∀ b o, H10 b = some o → b ≠ lc2 → H' b = some o) ∧ AucAt C K m B H' p2 lc2 ((d + (1 + r)) % 4) cs, ?_, ?_⟩
    · refine ⟨_, rfl, lcs, rfl, ⟨_, SqL.of hlcs10⟩, for_list (K := K) (a := lcs) (xs := xs) (fun i σ' H' => ∃ v9' : Option V, σ' = [some (.ref a), some (.ref q), some (.int (s' : Int)), some (.int (z : Int)), some (.int d), some (.ref p), some (.int ((4 + 9 * B : Nat) : Int)), v7, v8, v9', some (.ref lcs), some (.int (1 + r)), some (.ref p2), none, none] ∧ (∀ b o, H10 b = some o → b ≠ lc2 → H' b = some o) ∧ AucAt C K m B H' p2 lc2 ((d + (1 + r)) % 4) (cs.take i))
        ⟨v9, rfl, fun b o e _ => e, hA10⟩ (fun i σ' H' _ ⟨_, _, f, _⟩ => SqL.of (f _ _ hlcs10 nlcs2)) ?_ ?_⟩
      · rintro i x σ11 H11 hx ⟨v9', rfl, f11, hA11⟩
        obtain ⟨hc, hxc⟩ := hc10.get' hx
        obtain ⟨hleg, hVt⟩ := valid_take hV i _ hc
        obtain ⟨dx11, _, _, _, g11, _⟩ := id hA11
        have kp11 : Keep H10 H11 := keep_but hlc210 (fun _ q => by cases q) f11
        refine ⟨_, rfl, p2, dx11, _, rfl, g11, no_call, _, rfl, m, B, p2, lc2, _, cs.take i, x, _, rfl, hm, hA11, valid_sit hVt, by omega, hxc.keep kp11, hleg, fun H12 hA12 k12 => ?_⟩
        refine ⟨_, rfl, fun b o e n => k12 b o (f11 b o e n) n, ?_⟩
        rw [List.take_add_one, hc]
        exact hA12
      · rintro σ11 H11 ⟨v9', rfl, f11, hA11⟩
        refine ⟨v9', rfl, f11, ?_⟩
        rw [g3.len, List.take_length] at hA11
        exact hA11
    rintro σ11 H11 ⟨v9', rfl, f11, hA11⟩
    have hA1 : AucAt C K m B H11 p lc d cs := hA9.other nlc29 s910 hlc210 f11
    obtain ⟨dxa, _, _, _, ga, _⟩ := id hA1
    -- _law_first, _law_second
    refine ⟨_, rfl, p, dxa, _, rfl, ga, no_contract, m, B, p, lc, d, cs, rfl, hm, hA1, hsit, by omega, hov, fun v1 H12 s12 hv1 => ?_⟩
    have hA2 := hA11.same s12
    obtain ⟨dxb, _, _, _, gb, _⟩ := id hA2
    refine ⟨_, rfl, p2, dxb, _, rfl, gb, no_contract, m, B, p2, lc2, _, cs, rfl, hm, hA2, hsit, by omega, hov, fun v2 H13 s13 hv2 => ?_⟩
    have hv1' := hv1.same s13
    refine ⟨_, rfl, rfl, _, rfl, ?_⟩
    cases e : contr m d cs with
    | none =>
      rw [e] at hv1'
      rw [contr_none (d' := (d + (1 + r)) % 4) e] at hv2
      have e1 : v1 = .non := hv1'
      have e2 : v2 = .non := hv2
      subst e1 e2
      refine iteT ⟨_, rfl, rfl, ?_⟩
      exact k H13
    | some ys =>
      obtain ⟨y0, y1, y2, y3, rfl⟩ := contr_four e
      rw [e] at hv1'
      rw [contr_moved (y := 1 + r) e] at hv2
      obtain ⟨t1, rfl, ht1⟩ := hv1'
      obtain ⟨t2, rfl, ht2⟩ := hv2
      refine iteF ⟨_, rfl, _, rfl, _, rfl, t1, _, rfl, SqT.of ht1, ?_, fun u1 nu1 => ?_⟩
      · rintro ⟨_, h⟩
        rw [show (3 : Int) = ((3 : Nat) : Int) from rfl, HT.sIx_nat] at h
        exact absurd h (by show ¬ (min 3 4 : Nat) = 4; decide)
      rw [show cutV ([y0, y1, y2, y3].map V.int) none (some (3 : Int)) = [V.int y0, V.int y1, V.int y2] from cut3 _ _ _ _]
      have su1 : Same H13 (upd H13 u1 (.tup [V.int y0, V.int y1, V.int y2])) := same_new nu1
      refine ⟨_, rfl, t1, _, _, _, rfl, rfl, SqT.of (su1 _ _ ht1), atI_nat (j := 3) rfl, _, rfl, _, _, rfl, rfl, .inl ⟨_, rfl, _, _, rfl, rfl, (by show (0 : Int) < 4; decide), (by show 1 ≤ sizeLine; decide), fun u2 nu2 => ?_⟩⟩
      have su2 := su1.trans (same_new (o := .tup [V.int ((y3 + (1 + r)) % 4)]) nu2)
      have n12 : u1 ≠ u2 := ne_of_none upd_same nu2
      refine ⟨u1, u2, _, _, rfl, rfl, SqT.of (by rw [upd_ne n12]; exact upd_same), SqT.of upd_same, (fun q => by cases q), (by show 4 ≤ sizeLine; decide), (fun q => by cases q), fun _ u3 nu3 => ?_⟩
      have su3 := su2.trans (same_new (o := .tup ([V.int y0, V.int y1, V.int y2] ++ [V.int ((y3 + (1 + r)) % 4)])) nu3)
      refine ⟨.tuple (([y0, y1, y2, (y3 + (1 + r)) % 4] : List Int).map fun y => PyData.int y), .tuple (([y0, y1, y2, (y3 + (1 + r)) % 4] : List Int).map fun y => PyData.int y), .tup (SqT.of (su3 _ _ ht2)) (ints_dp (fun y => y) _), .tup (SqT.of upd_same) (ints_dp (fun y => y) [y0, y1, y2, (y3 + (1 + r)) % 4]), ints_shapedT _, ints_shapedT _, ?_⟩
      rw [ints_eqv]
      exact k _
end
end K18

namespace K18
open PySem L2
/-! ### what the top has written, the law's head -/
set_option maxHeartbeats 4000000 in
theorem all_mk {l : PySem.W.OpenLaw} {w : World} {K : PySem.W.Frag} {h : Heap} {mg : Str → Option Value} {fa C aP aD aR fS fP fT fC fL fB fO fI fG fA fK fBi fN fPo fPi fLC fW : Addr} (X : K.In h) (G : h.Ns mainGlobals mg) (hfa : mg "law" = some (.ref fa))
    {odS odP odT odC odL odB odO odI odG odA odK odBi odN odPo odPi odLC odW anS anP anT anC anL anB anO anI anG anA anK anBi anN anPo anPi anLC anW : Option Addr} {slS slP slT slC slL slB slO slI slG slA slK slBi slN slPo slPi slLC slW : Array (Option Value)} {ocS kVS dcS pmS cdS ctS ocP kVP dcP pmP cdP ctP ocT kVT dcT pmT cdT ctT ocC kVC dcC pmC cdC ctC ocL kVL dcL pmL cdL ctL ocB kVB dcB pmB cdB ctB ocO kVO dcO pmO cdO ctO ocI kVI dcI pmI cdI ctI ocG kVG dcG pmG cdG ctG ocA kVA dcA pmA cdA ctA ocK kVK dcK pmK cdK ctK ocBi kVBi dcBi pmBi cdBi ctBi ocN kVN dcN pmN cdN ctN ocPo kVPo dcPo pmPo cdPo ctPo ocPi kVPi dcPi pmPi cdPi ctPi ocLC kVLC dcLC pmLC cdLC ctLC ocW kVW dcW pmW cdW ctW : Value}
    {ddP ddD ddR : Option Addr} {tkP tkD tkR : Tok} {nP nD nR : Nat} {ssP ssD ssR : Array (Option Value)}
    (aC : PySem.W.nsIn K mainGlobals "Auction" = some (some (.ref C)))
    (aS_ : PySem.W.nsIn K mainGlobals "side_of" = some (some (.ref fS)))
    (lS_ : K.lookup fS = some ⟨ocS, odS, .func (PySem.W.fnOf "side_of" "side_of" (defArgs sSide) (defBody sSide) (defScope sSide) .none kVS dcS pmS anS cdS ctS), slS⟩)
    (cS_ : PySem.W.codeIn K cdS "side_of" = true)
    (kS_ : PySem.W.keepIn K (.ref fS) = true)
    (aP_ : PySem.W.findIn K (.ref C) "player_of" = some (some (.ref fP)))
    (iP_ : PySem.W.isFn K (.ref fP) = true)
    (lP_ : K.lookup fP = some ⟨ocP, odP, .func (PySem.W.fnOf "player_of" "Auction.player_of" (defArgs sPlayer) (defBody sPlayer) (defScope sPlayer) .none kVP dcP pmP anP cdP ctP), slP⟩)
    (cP_ : PySem.W.codeIn K cdP "Auction.player_of" = true)
    (kP_ : PySem.W.keepIn K (.ref fP) = true)
    (aT_ : PySem.W.findIn K (.ref C) "turn" = some (some (.ref fT)))
    (iT_ : PySem.W.isFn K (.ref fT) = true)
    (lT_ : K.lookup fT = some ⟨ocT, odT, .func (PySem.W.fnOf "turn" "Auction.turn" (defArgs sTurn) (defBody sTurn) (defScope sTurn) .none kVT dcT pmT anT cdT ctT), slT⟩)
    (cT_ : PySem.W.codeIn K cdT "Auction.turn" = true)
    (kT_ : PySem.W.keepIn K (.ref fT) = true)
    (aC_ : PySem.W.findIn K (.ref C) "calls" = some (some (.ref fC)))
    (iC_ : PySem.W.isFn K (.ref fC) = true)
    (lC_ : K.lookup fC = some ⟨ocC, odC, .func (PySem.W.fnOf "calls" "Auction.calls" (defArgs sCalls) (defBody sCalls) (defScope sCalls) .none kVC dcC pmC anC cdC ctC), slC⟩)
    (cC_ : PySem.W.codeIn K cdC "Auction.calls" = true)
    (kC_ : PySem.W.keepIn K (.ref fC) = true)
    (aL_ : PySem.W.findIn K (.ref C) "last" = some (some (.ref fL)))
    (iL_ : PySem.W.isFn K (.ref fL) = true)
    (lL_ : K.lookup fL = some ⟨ocL, odL, .func (PySem.W.fnOf "last" "Auction.last" (defArgs sLast) (defBody sLast) (defScope sLast) .none kVL dcL pmL anL cdL ctL), slL⟩)
    (cL_ : PySem.W.codeIn K cdL "Auction.last" = true)
    (kL_ : PySem.W.keepIn K (.ref fL) = true)
    (aB_ : PySem.W.findIn K (.ref C) "last_bid" = some (some (.ref fB)))
    (iB_ : PySem.W.isFn K (.ref fB) = true)
    (lB_ : K.lookup fB = some ⟨ocB, odB, .func (PySem.W.fnOf "last_bid" "Auction.last_bid" (defArgs sLastBid) (defBody sLastBid) (defScope sLastBid) .none kVB dcB pmB anB cdB ctB), slB⟩)
    (cB_ : PySem.W.codeIn K cdB "Auction.last_bid" = true)
    (kB_ : PySem.W.keepIn K (.ref fB) = true)
    (aO_ : PySem.W.findIn K (.ref C) "is_over" = some (some (.ref fO)))
    (iO_ : PySem.W.isFn K (.ref fO) = true)
    (lO_ : K.lookup fO = some ⟨ocO, odO, .func (PySem.W.fnOf "is_over" "Auction.is_over" (defArgs sOver) (defBody sOver) (defScope sOver) .none kVO dcO pmO anO cdO ctO), slO⟩)
    (cO_ : PySem.W.codeIn K cdO "Auction.is_over" = true)
    (kO_ : PySem.W.keepIn K (.ref fO) = true)
    (aI_ : PySem.W.findIn K (.ref C) "__init__" = some (some (.ref fI)))
    (iI_ : PySem.W.isFn K (.ref fI) = true)
    (lI_ : K.lookup fI = some ⟨ocI, odI, .func (PySem.W.fnOf "__init__" "Auction.__init__" (defArgs sInit) (defBody sInit) (defScope sInit) .none kVI dcI pmI anI cdI ctI), slI⟩)
    (cI_ : PySem.W.codeIn K cdI "Auction.__init__" = true)
    (kI_ : PySem.W.keepIn K (.ref fI) = true)
    (aG_ : PySem.W.findIn K (.ref C) "legal" = some (some (.ref fG)))
    (iG_ : PySem.W.isFn K (.ref fG) = true)
    (lG_ : K.lookup fG = some ⟨ocG, odG, .func (PySem.W.fnOf "legal" "Auction.legal" (defArgs sLegal) (defBody sLegal) (defScope sLegal) .none kVG dcG pmG anG cdG ctG), slG⟩)
    (cG_ : PySem.W.codeIn K cdG "Auction.legal" = true)
    (kG_ : PySem.W.keepIn K (.ref fG) = true)
    (aA_ : PySem.W.findIn K (.ref C) "call" = some (some (.ref fA)))
    (iA_ : PySem.W.isFn K (.ref fA) = true)
    (lA_ : K.lookup fA = some ⟨ocA, odA, .func (PySem.W.fnOf "call" "Auction.call" (defArgs sCall) (defBody sCall) (defScope sCall) .none kVA dcA pmA anA cdA ctA), slA⟩)
    (cA_ : PySem.W.codeIn K cdA "Auction.call" = true)
    (kA_ : PySem.W.keepIn K (.ref fA) = true)
    (aK_ : PySem.W.findIn K (.ref C) "contract" = some (some (.ref fK)))
    (iK_ : PySem.W.isFn K (.ref fK) = true)
    (lK_ : K.lookup fK = some ⟨ocK, odK, .func (PySem.W.fnOf "contract" "Auction.contract" (defArgs sContract) (defBody sContract) (defScope sContract) .none kVK dcK pmK anK cdK ctK), slK⟩)
    (cK_ : PySem.W.codeIn K cdK "Auction.contract" = true)
    (kK_ : PySem.W.keepIn K (.ref fK) = true)
    (aBi_ : PySem.W.nsIn K mainGlobals "bids_of" = some (some (.ref fBi)))
    (lBi_ : K.lookup fBi = some ⟨ocBi, odBi, .func (PySem.W.fnOf "bids_of" "bids_of" (defArgs sBids) (defBody sBids) (defScope sBids) .none kVBi dcBi pmBi anBi cdBi ctBi), slBi⟩)
    (cBi_ : PySem.W.codeIn K cdBi "bids_of" = true)
    (kBi_ : PySem.W.keepIn K (.ref fBi) = true)
    (aN_ : PySem.W.nsIn K mainGlobals "_law_numbers" = some (some (.ref fN)))
    (lN_ : K.lookup fN = some ⟨ocN, odN, .func (PySem.W.fnOf "_law_numbers" "_law_numbers" (defArgs sNumbers) (defBody sNumbers) (defScope sNumbers) .none kVN dcN pmN anN cdN ctN), slN⟩)
    (cN_ : PySem.W.codeIn K cdN "_law_numbers" = true)
    (kN_ : PySem.W.keepIn K (.ref fN) = true)
    (aPo_ : PySem.W.nsIn K mainGlobals "_law_pool" = some (some (.ref fPo)))
    (lPo_ : K.lookup fPo = some ⟨ocPo, odPo, .func (PySem.W.fnOf "_law_pool" "_law_pool" (defArgs sPool) (defBody sPool) (defScope sPool) .none kVPo dcPo pmPo anPo cdPo ctPo), slPo⟩)
    (cPo_ : PySem.W.codeIn K cdPo "_law_pool" = true)
    (kPo_ : PySem.W.keepIn K (.ref fPo) = true)
    (aPi_ : PySem.W.nsIn K mainGlobals "_law_pick" = some (some (.ref fPi)))
    (lPi_ : K.lookup fPi = some ⟨ocPi, odPi, .func (PySem.W.fnOf "_law_pick" "_law_pick" (defArgs sPick) (defBody sPick) (defScope sPick) .none kVPi dcPi pmPi anPi cdPi ctPi), slPi⟩)
    (cPi_ : PySem.W.codeIn K cdPi "_law_pick" = true)
    (kPi_ : PySem.W.keepIn K (.ref fPi) = true)
    (aLC_ : PySem.W.nsIn K mainGlobals "_law_contract" = some (some (.ref fLC)))
    (lLC_ : K.lookup fLC = some ⟨ocLC, odLC, .func (PySem.W.fnOf "_law_contract" "_law_contract" (defArgs sLawContract) (defBody sLawContract) (defScope sLawContract) .none kVLC dcLC pmLC anLC cdLC ctLC), slLC⟩)
    (cLC_ : PySem.W.codeIn K cdLC "_law_contract" = true)
    (kLC_ : PySem.W.keepIn K (.ref fLC) = true)
    (aW_ : PySem.W.nsIn K mainGlobals "law" = some (some (.ref fW)))
    (lW_ : K.lookup fW = some ⟨ocW, odW, .func (PySem.W.fnOf "law" "law" (defArgs sLaw) (defBody sLaw) (defScope sLaw) .none kVW dcW pmW anW cdW ctW), slW⟩)
    (cW_ : PySem.W.codeIn K cdW "law" = true)
    (kW_ : PySem.W.keepIn K (.ref fW) = true)
    (tPn : PySem.W.nsIn K mainGlobals "PASS" = some (some (.ref aP)))
    (tPl : K.lookup aP = some ⟨.type "tuple", ddP, .seq #[.str "pass" tkP] nP, ssP⟩)
    (tDn : PySem.W.nsIn K mainGlobals "DOUBLE" = some (some (.ref aD)))
    (tDl : K.lookup aD = some ⟨.type "tuple", ddD, .seq #[.str "double" tkD] nD, ssD⟩)
    (tRn : PySem.W.nsIn K mainGlobals "REDOUBLE" = some (some (.ref aR)))
    (tRl : K.lookup aR = some ⟨.type "tuple", ddR, .seq #[.str "redouble" tkR] nR, ssR⟩)
    (pg : PySem.W.plainGet K C Str.empty = true)
    (hd : PySem.W.hasDictIn K C = true)
    (po : PySem.W.plainOver K C = true)
    (sa : PySem.W.findIn K (.ref C) "__setattr__" = some (some (.builtin "object.__setattr__")))
    (mk : PySem.W.makesIn K C = true)
    (kc : PySem.W.keepIn K (.ref C) = true)
    (nB : PySem.W.findIn K (.ref C) "_bids" = some none)
    (nD : PySem.W.findIn K (.ref C) "_dealer" = some none)
    (nC : PySem.W.findIn K (.ref C) "_calls" = some none)
    (z_len : PySem.W.nsIn K mainGlobals "len" = some none)
    (z_enumerate : PySem.W.nsIn K mainGlobals "enumerate" = some none)
    (z_range : PySem.W.nsIn K mainGlobals "range" = some none)
    (z_list : PySem.W.nsIn K mainGlobals "list" = some none)
    (z_int : PySem.W.nsIn K mainGlobals "int" = some none)
    (z_abs : PySem.W.nsIn K mainGlobals "abs" = some none)
    (z_min : PySem.W.nsIn K mainGlobals "min" = some none)
    : ∃ fd : FuncData, (∀ (s : Shared) (v : Value), BindsTo s fd ⟨[v], []⟩ [("_law_script", v)]) ∧ ∀ base : Heap, K.In base → base.Ns mainGlobals mg → FnOk l.prog w K mg base CX0 5 fa fd ["_law_script"] (spLaw K) := by
  have e := hfa.symm.trans (PySem.W.mg_of X G aW_)
  cases e
  have T : Txt K mg C aP aD aR := ⟨⟨pg, hd, po, sa⟩, nB, nD, nC, PySem.W.mg_of X G aC, PySem.W.mg_of X G tPn, PySem.W.mg_of X G tDn, PySem.W.mg_of X G tRn, ⟨_, _, _, tPl, rfl, rfl, (by show 1 ≤ sizeLine; decide), .cons ⟨_, rfl⟩ .nil⟩, ⟨_, _, _, tDl, rfl, rfl, (by show 1 ≤ sizeLine; decide), .cons ⟨_, rfl⟩ .nil⟩, ⟨_, _, _, tRl, rfl, rfl, (by show 1 ≤ sizeLine; decide), .cons ⟨_, rfl⟩ .nil⟩, PySem.W.mg_none_of X G z_len, PySem.W.mg_none_of X G z_enumerate, PySem.W.mg_none_of X G z_range, PySem.W.mg_none_of X G z_list, PySem.W.mg_none_of X G z_int, PySem.W.mg_none_of X G z_abs, PySem.W.mg_none_of X G z_min⟩
  have FS := fun_mk (st := sSide) lS_ cS_ kS_
  have bS := FS.binds (ps := ["player"]) fun _ _ _ _ _ _ us hl => match us, hl with | [_], _ => rfl
  have FP := fun_mk (st := sPlayer) lP_ cP_ kP_
  have bP := FP.binds (ps := ["self", "at"]) fun _ _ _ _ _ _ us hl => match us, hl with | [_, _], _ => rfl
  have FT := fun_mk (st := sTurn) lT_ cT_ kT_
  have bT := FT.binds (ps := ["self"]) fun _ _ _ _ _ _ us hl => match us, hl with | [_], _ => rfl
  have FC := fun_mk (st := sCalls) lC_ cC_ kC_
  have bC := FC.binds (ps := ["self"]) fun _ _ _ _ _ _ us hl => match us, hl with | [_], _ => rfl
  have FL := fun_mk (st := sLast) lL_ cL_ kL_
  have bL := FL.binds (ps := ["self"]) fun _ _ _ _ _ _ us hl => match us, hl with | [_], _ => rfl
  have FB := fun_mk (st := sLastBid) lB_ cB_ kB_
  have bB := FB.binds (ps := ["self"]) fun _ _ _ _ _ _ us hl => match us, hl with | [_], _ => rfl
  have FO := fun_mk (st := sOver) lO_ cO_ kO_
  have bO := FO.binds (ps := ["self"]) fun _ _ _ _ _ _ us hl => match us, hl with | [_], _ => rfl
  have FI := fun_mk (st := sInit) lI_ cI_ kI_
  have bI := FI.binds (ps := ["self", "suits", "size", "dealer"]) fun _ _ _ _ _ _ us hl => match us, hl with | [_, _, _, _], _ => rfl
  have FG := fun_mk (st := sLegal) lG_ cG_ kG_
  have bG := FG.binds (ps := ["self"]) fun _ _ _ _ _ _ us hl => match us, hl with | [_], _ => rfl
  have FA := fun_mk (st := sCall) lA_ cA_ kA_
  have bA := FA.binds (ps := ["self", "call"]) fun _ _ _ _ _ _ us hl => match us, hl with | [_, _], _ => rfl
  have FK := fun_mk (st := sContract) lK_ cK_ kK_
  have bK := FK.binds (ps := ["self"]) fun _ _ _ _ _ _ us hl => match us, hl with | [_], _ => rfl
  have FBi := fun_mk (st := sBids) lBi_ cBi_ kBi_
  have bBi := FBi.binds (ps := ["suits", "size"]) fun _ _ _ _ _ _ us hl => match us, hl with | [_, _], _ => rfl
  have FN := fun_mk (st := sNumbers) lN_ cN_ kN_
  have bN := FN.binds (ps := ["_law_script", "_law_first", "_law_most"]) fun _ _ _ _ _ _ us hl => match us, hl with | [_, _, _], _ => rfl
  have FPo := fun_mk (st := sPool) lPo_ cPo_ kPo_
  have bPo := FPo.binds (ps := ["_law_script"]) fun _ _ _ _ _ _ us hl => match us, hl with | [_], _ => rfl
  have FPi := fun_mk (st := sPick) lPi_ cPi_ kPi_
  have bPi := FPi.binds (ps := ["_law_pool_here", "_law_many"]) fun _ _ _ _ _ _ us hl => match us, hl with | [_, _], _ => rfl
  have FLC := fun_mk (st := sLawContract) lLC_ cLC_ kLC_
  have bLC := FLC.binds (ps := ["_law_dealer", "_law_calls"]) fun _ _ _ _ _ _ us hl => match us, hl with | [_, _], _ => rfl
  have FW := fun_mk (st := sLaw) lW_ cW_ kW_
  let D : Defs K C := { fS := fS, dS := _, fP := fP, dP := _, fT := fT, dT := _, fC := fC, dC := _, fL := fL, dL := _, fB := fB, dB := _, fO := fO, dO := _, FS := FS, FP := FP, FT := FT, FC := FC, FL := FL, FB := FB, FO := FO, bS := bS, bP := bP, bT := bT, bC := bC, bL := bL, bB := bB, bO := bO, mP := ⟨aP_, iP_, kP_⟩, mT := ⟨aT_, iT_, kT_⟩, mC := ⟨aC_, iC_, kC_⟩, mL := ⟨aL_, iL_, kL_⟩, mB := ⟨aB_, iB_, kB_⟩, mO := ⟨aO_, iO_, kO_⟩ }
  let M : More K mg C D := { fI := fI, dI := _, fG := fG, dG := _, fA := fA, dA := _, fK := fK, dK := _, fBi := fBi, dBi := _, fN := fN, dN := _, fPo := fPo, dPo := _, fPi := fPi, dPi := _, fLC := fLC, dLC := _, FI := FI, FG := FG, FA := FA, FK := FK, FBi := FBi, FN := FN, FPo := FPo, FPi := FPi, FLC := FLC, bI := bI, bG := bG, bA := bA, bK := bK, bBi := bBi, bN := bN, bPo := bPo, bPi := bPi, bLC := bLC, hmk := ⟨mk, aI_, iI_, kc⟩, mG := ⟨aG_, iG_, kG_⟩, mA := ⟨aA_, iA_, kA_⟩, mK := ⟨aK_, iK_, kK_⟩, mgS := PySem.W.mg_of X G aS_, mgBi := PySem.W.mg_of X G aBi_, mgN := PySem.W.mg_of X G aN_, mgPo := PySem.W.mg_of X G aPo_, mgPi := PySem.W.mg_of X G aPi_, mgLC := PySem.W.mg_of X G aLC_ }
  exact ⟨PySem.W.fnOf "law" "law" (defArgs sLaw) (defBody sLaw) (defScope sLaw) .none kVW dcW pmW anW cdW ctW, fun s v => .of_eq rfl, fun base _ _ => ok_law FW T D M⟩
theorem walk {l : PySem.W.OpenLaw} {q : Program} {loose : List Str} {XP : (Str → Option Value) → Heap → Prop} {YP : World → Heap → Prop} {d : DefRec} {K : Params → PySem.W.Frag} (hn : l.most = some 63) (hdf : d.params.defaults = [])
    (hY : ∀ (w : World) (h : Heap), YP w h → (K w.params).In h)
    (F : ∀ (w : World) (mg : Str → Option Value) (fa : Addr) (h : Heap), (K w.params).In h → h.Ns mainGlobals mg → mg d.name = some (.ref fa) →
      ∃ fd : FuncData, (∀ (s : Shared) (u : Value), BindsTo s fd ⟨[u], []⟩ [("_law_script", u)]) ∧ ∀ base : Heap, (K w.params).In base → base.Ns mainGlobals mg → FnOk l.prog w (K w.params) mg base CX0 5 fa fd ["_law_script"] (spLaw (K w.params))) :
    PySem.W.WalkO q loose XP YP l.row.toRowW d [] (fun f vs => PySem.call f vs) :=
  L2.walk_of (n := 63) (k := 5) (x := "_law_script") (CX := fun _ => CX0) (sp := fun w => spLaw (K w.params)) hn (by decide) hdf ⟨rfl, by decide, by decide⟩ hY F (fun _ _ a ns hl _ hS => ⟨a, ns, rfl, hS, hl, fun _ => rfl⟩) fun _ _ _ _ _ z => z
end K18
open PySem PySem.W PyProof.Rows
set_option maxRecDepth 100000 in
set_option maxHeartbeats 0 in
theorem PySem.Challenge.cw_finesse_k18_whole_auctions_always_end_holds : PySem.Challenge.rw_finesse_k18_whole_auctions_always_end.Holds := by
  w_on; o_law; k_head; (case hw => w_witness2)
  k_fill
  refine K18.walk (l := PySem.Challenge.rw_finesse_k18_whole_auctions_always_end) rfl rfl (fun w h Y => PySem.W.kIn_of Y) ?F
  case F =>
    intro w mg fa h KX G hmg
    refine' K18.all_mk KX G hmg ?aC ?aS_ ?lS_ ?cS_ ?kS_ ?aP_ ?iP_ ?lP_ ?cP_ ?kP_ ?aT_ ?iT_ ?lT_ ?cT_ ?kT_ ?aC_ ?iC_ ?lC_ ?cC_ ?kC_ ?aL_ ?iL_ ?lL_ ?cL_ ?kL_ ?aB_ ?iB_ ?lB_ ?cB_ ?kB_ ?aO_ ?iO_ ?lO_ ?cO_ ?kO_ ?aI_ ?iI_ ?lI_ ?cI_ ?kI_ ?aG_ ?iG_ ?lG_ ?cG_ ?kG_ ?aA_ ?iA_ ?lA_ ?cA_ ?kA_ ?aK_ ?iK_ ?lK_ ?cK_ ?kK_ ?aBi_ ?lBi_ ?cBi_ ?kBi_ ?aN_ ?lN_ ?cN_ ?kN_ ?aPo_ ?lPo_ ?cPo_ ?kPo_ ?aPi_ ?lPi_ ?cPi_ ?kPi_ ?aLC_ ?lLC_ ?cLC_ ?kLC_ ?aW_ ?lW_ ?cW_ ?kW_ ?tPn ?tPl ?tDn ?tDl ?tRn ?tRl ?pg ?hd ?po ?sa ?mk ?kc ?nB ?nD ?nC ?z_len ?z_enumerate ?z_range ?z_list ?z_int ?z_abs ?z_min
    (case aC => k_is)
    (case aS_ => k_is)
    (case lS_ => k_is)
    (case cS_ => k_is)
    (case kS_ => k_is)
    (case aP_ => k_is)
    (case iP_ => k_is)
    (case lP_ => k_is)
    (case cP_ => k_is)
    (case kP_ => k_is)
    (case aT_ => k_is)
    (case iT_ => k_is)
    (case lT_ => k_is)
    (case cT_ => k_is)
    (case kT_ => k_is)
    (case aC_ => k_is)
    (case iC_ => k_is)
    (case lC_ => k_is)
    (case cC_ => k_is)
    (case kC_ => k_is)
    (case aL_ => k_is)
    (case iL_ => k_is)
    (case lL_ => k_is)
    (case cL_ => k_is)
    (case kL_ => k_is)
    (case aB_ => k_is)
    (case iB_ => k_is)
    (case lB_ => k_is)
    (case cB_ => k_is)
    (case kB_ => k_is)
    (case aO_ => k_is)
    (case iO_ => k_is)
    (case lO_ => k_is)
    (case cO_ => k_is)
    (case kO_ => k_is)
    (case aI_ => k_is)
    (case iI_ => k_is)
    (case lI_ => k_is)
    (case cI_ => k_is)
    (case kI_ => k_is)
    (case aG_ => k_is)
    (case iG_ => k_is)
    (case lG_ => k_is)
    (case cG_ => k_is)
    (case kG_ => k_is)
    (case aA_ => k_is)
    (case iA_ => k_is)
    (case lA_ => k_is)
    (case cA_ => k_is)
    (case kA_ => k_is)
    (case aK_ => k_is)
    (case iK_ => k_is)
    (case lK_ => k_is)
    (case cK_ => k_is)
    (case kK_ => k_is)
    (case aBi_ => k_is)
    (case lBi_ => k_is)
    (case cBi_ => k_is)
    (case kBi_ => k_is)
    (case aN_ => k_is)
    (case lN_ => k_is)
    (case cN_ => k_is)
    (case kN_ => k_is)
    (case aPo_ => k_is)
    (case lPo_ => k_is)
    (case cPo_ => k_is)
    (case kPo_ => k_is)
    (case aPi_ => k_is)
    (case lPi_ => k_is)
    (case cPi_ => k_is)
    (case kPi_ => k_is)
    (case aLC_ => k_is)
    (case lLC_ => k_is)
    (case cLC_ => k_is)
    (case kLC_ => k_is)
    (case aW_ => k_is)
    (case lW_ => k_is)
    (case cW_ => k_is)
    (case kW_ => k_is)
    (case tPn => k_is)
    (case tPl => k_is)
    (case tDn => k_is)
    (case tDl => k_is)
    (case tRn => k_is)
    (case tRl => k_is)
    (case pg => k_is)
    (case hd => k_is)
    (case po => k_is)
    (case sa => k_is)
    (case mk => k_is)
    (case kc => k_is)
    (case nB => k_is)
    (case nD => k_is)
    (case nC => k_is)
    (case z_len => k_is)
    (case z_enumerate => k_is)
    (case z_range => k_is)
    (case z_list => k_is)
    (case z_int => k_is)
    (case z_abs => k_is)
    (case z_min => k_is)
#print axioms PySem.Challenge.cw_finesse_k18_whole_auctions_always_end_holds
