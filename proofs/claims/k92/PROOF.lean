import PyProof.Rows.All
import Wide.All
import OpenK.AllK
import Wide.FinOn
import HandS.ForMost
import HandS.Evl
import HandS.Conv
import HandS.Style
import HandS.Replace
import HandS.Defaults
import KE.DatumOrd
import PySem.Challenge.RW_foreseehall_k92_whole_from_keeping_to_fa
import HandS.Zip
set_option Elab.async false
set_option linter.all false
set_option maxRecDepth 100000
set_option maxHeartbeats 4000000
namespace FH
open PySem PySem.Spec PyProof.Rows L2
/-! ### the text by places, readings by short names -/
def topS (i : Nat) : Stmt := PySem.Challenge.pw_foreseehall_k92_whole_from_keeping_to_fa.main.body.getD i (.Pass ⟨0, 0, 0, 0⟩)
abbrev rPlus : R2 := rI0 fun i j => .int (i + j)
abbrev rMinus : R2 := rI0 fun i j => .int (i - j)
abbrev rTimes : R2 := rI CMul fun i j => .int (i * j)
abbrev rMod : R2 := rI (fun _ j => 0 < j) fun i j => .int (i % j)
abbrev rDiv : R2 := rI CDiv fun i j => .int (i / j)
abbrev rPow : R2 := rI CPow fun i j => .int (i ^ j.toNat)
abbrev rLt : R2 := rI0 fun i j => .bl (decide (i < j))
abbrev rLe : R2 := rI0 fun i j => .bl (decide (i ≤ j))
abbrev rGt : R2 := rI0 fun i j => .bl (decide (j < i))
abbrev rGe : R2 := rI0 fun i j => .bl (decide (j ≤ i))
abbrev rGeS : R2 := fun x y H Q => ∃ i j, x = .str i ∧ y = .str j ∧ Q (.bl (!decide (i.cps.toList < j.cps.toList))) H
abbrev rInSign : R2 := fun x y H Q => ∃ (c : Nat) (z : Str), x = .str ⟨#[c]⟩ ∧ y = .str z ∧ Q (.bl (decide (c ∈ z.cps.toList))) H
abbrev rIsN : R2 := fun x y H Q => y = .non ∧ Q (.bl (decide (x = .non))) H
abbrev rNotN : R2 := fun x y H Q => y = .non ∧ Q (.bl (!decide (x = .non))) H
abbrev rLenStr : List V → Hp → VK → Prop := fun xs H Q => ∃ z, xs = [.str z] ∧ z.length ≤ sizeLine ∧ Q (.int z.length) H
abbrev rInt1 : List V → Hp → VK → Prop := fun xs H Q => (∃ i, xs = [.int i] ∧ Q (.int i) H) ∨ ∃ k, xs = [.bl k] ∧ Q (.int (if k then 1 else 0)) H
abbrev rSIndex : V → List V → Hp → VK → Prop := fun x xs H Q => ∃ a b i rest, x = .str a ∧ xs = [.str b] ∧ Builtin.Str.occurrences a b 0 a.length 1 = i :: rest ∧ Q (.int (i : Nat)) H
/-! ### min of a list of pairs of ints -/
/-- the first of the least, by the first item, then by the second -/
def rMinP (K : PySem.W.Frag) : List V → Hp → VK → Prop := fun vs H Q => ∃ (a : Addr) (ts : List Addr) (p : Int × Int) (ps : List (Int × Int)), vs = [V.ref a] ∧ SqL K H a (ts.map V.ref) ∧ ts.length = (p :: ps).length ∧
  (∀ (i : Nat) (t : Addr) (q : Int × Int), ts[i]? = some t → (p :: ps)[i]? = some q → SqT K H t [.int q.1, .int q.2]) ∧
  ∀ (i : Nat) (t : Addr), ts[i]? = some t → (p :: ps)[i]? = some (PySem.W.minOf p ps) → Q (.ref t) H
section
variable {X : Cx}
theorem dpAll_refs {K : PySem.W.Frag} {H : Hp} : ∀ (ts : List Addr) (qs : List (Int × Int)), ts.length = qs.length → (∀ (i : Nat) (t : Addr) (q : Int × Int), ts[i]? = some t → qs[i]? = some q → SqT K H t [.int q.1, .int q.2]) →
    DpAll K H (ts.map V.ref) (qs.map PySem.W.Datum.toD)
  | [], [], _, _ => .nil
  | [], _ :: _, h, _ => by simp at h
  | _ :: _, [], h, _ => by simp at h
  | t :: ts, q :: qs, h, f => .cons (.tup (f 0 t q rfl rfl) (.cons (.int q.1) (.cons (.int q.2) .nil))) (dpAll_refs ts qs (by simpa using h) fun i t q h1 h2 => f (i + 1) t q h1 h2)
theorem minOf_mem {p : Int × Int} : ∀ ps : List (Int × Int), PySem.W.minOf p ps ∈ p :: ps := fun ps => by
  unfold PySem.W.minOf
  induction ps generalizing p with
  | nil => exact List.mem_cons_self
  | cons q qs ih =>
    rw [List.foldl_cons]
    have h := ih (p := if PySem.W.DatumOrd.lt q p = true then q else p)
    rcases List.mem_cons.mp h with e | e
    · rw [e]
      split
      · exact List.mem_cons_of_mem _ List.mem_cons_self
      · exact List.mem_cons_self
    · exact List.mem_cons_of_mem _ (List.mem_cons_of_mem _ e)
theorem lt_pair (p q : Int × Int) : PySem.W.DatumOrd.lt p q = true ↔ p.1 < q.1 ∨ p.1 = q.1 ∧ p.2 < q.2 := by
  show (if p.1 = q.1 then decide (p.2 < q.2) else decide (p.1 < q.1)) = true ↔ _
  split
  · rename_i h
    simp [h]
  · rename_i h
    simp [h]
theorem minOf_le {p : Int × Int} : ∀ (ps : List (Int × Int)) (q : Int × Int), q ∈ p :: ps → (PySem.W.minOf p ps).1 ≤ q.1 := fun ps => by
  unfold PySem.W.minOf
  induction ps generalizing p with
  | nil =>
    intro q hq
    rw [List.mem_singleton.mp hq]
    exact Int.le_refl _
  | cons r rs ih =>
    intro q hq
    rw [List.foldl_cons]
    by_cases hl : PySem.W.DatumOrd.lt r p = true
    · rw [if_pos hl]
      have hrp : r.1 ≤ p.1 := by
        rcases (lt_pair r p).mp hl with h | h
        · omega
        · omega
      rcases List.mem_cons.mp hq with e | e
      · have := ih (p := r) r List.mem_cons_self
        rw [e]
        omega
      · exact ih (p := r) q e
    · rw [if_neg hl]
      have hrp : p.1 ≤ r.1 := by
        have h2 : ¬ (r.1 < p.1 ∨ r.1 = p.1 ∧ r.2 < p.2) := fun z => hl ((lt_pair r p).mpr z)
        omega
      rcases List.mem_cons.mp hq with e | e
      · rw [e]
        exact ih (p := p) p List.mem_cons_self
      · rcases List.mem_cons.mp e with e | e
        · have := ih (p := p) p List.mem_cons_self
          rw [e]
          omega
        · exact ih (p := p) q (List.mem_cons_of_mem _ e)
theorem cr_minP {k : Nat} (hc : X.calm = true) (hr : Room k X.A) : CallR X (.builtin "min") (rMinP X.K) := by
  intro pins s σ H vs us Q I r h
  obtain ⟨a, ts, p, ps, rfl, hs, hlen, ht, q⟩ := h
  obtain ⟨its, rv, hl, _⟩ := I.list hs
  rw [Vals.ref1 r]
  obtain ⟨as, hr2⟩ := Dp.readsAll I _ _ its (dpAll_refs ts (p :: ps) hlen ht) rv
  refine PySem.W.min_list_datum (α := Int × Int) (vs := its.toArray) (I.ok.hd hc) hl.isList (x := p) (xs := ps) ⟨as, by simpa using hr2⟩ ?_ fun i v h' tk hi hv hk => ?_
  · have := hr.un
    show X.A.units + 1 + 1 < cLine
    omega
  · have hi2 : its[i]? = some v := by simpa using hi
    have hix : i < ts.length := by
      have h1 := rv.length
      have h2 := (List.getElem?_eq_some_iff.mp hi2).1
      rw [List.length_map] at h1
      omega
    obtain ⟨u, hu, ru⟩ := rv.get (i := i) (x := V.ref ts[i]) (by rw [List.getElem?_map, List.getElem?_eq_getElem hix]; rfl)
    rw [hi2] at hu
    cases hu
    cases ru
    have hq : i < (p :: ps).length := by omega
    have hsq := ht i ts[i] (p :: ps)[i] (List.getElem?_eq_getElem hix) (List.getElem?_eq_getElem hq)
    refine ⟨.ref ts[i], H, I.kept hk, rfl, q i ts[i] (List.getElem?_eq_getElem hix) ?_⟩
    -- what stands there is the least
    have I2 : Inv X pins σ H { s with heap := h', toks := tk } := I.kept hk
    obtain ⟨as1, r1⟩ := hv
    obtain ⟨as2, r2⟩ := Dp.reads I2 (PySem.W.Datum.toD (p :: ps)[i]) (.ref ts[i]) (.ref ts[i]) (.tup hsq (.cons (.int _) (.cons (.int _) .nil))) rfl
    have e := (Reads.unique r1 _ _ r2).1
    have e2 : (p :: ps)[i] = PySem.W.minOf p ps := by
      have h1 := PySem.W.Datum.eqv (PySem.W.minOf p ps) (p :: ps)[i]
      rw [e, PySem.W.Datum.eqv] at h1
      exact (of_decide_eq_true (h1.symm.trans (decide_eq_true rfl))).symm
    rw [List.getElem?_eq_getElem hq, e2]
end
/-! ### a def with its promise -/
structure Dk (P : Program) (w : World) (K : PySem.W.Frag) (mg : Str → Option Value) (base : Heap) (x : Str) (ps : List Str) (k : Nat) (sp : Sp) : Prop where
  ex : ∃ (f : Addr) (fd : FuncData), FnOk P w K mg base CX0 k f fd ps sp ∧ mg x = some (.ref f) ∧ PySem.W.keepIn K (.ref f) = true ∧ Binds K fd ps []
theorem Dk.imp {P : Program} {w : World} {K : PySem.W.Frag} {mg : Str → Option Value} {base : Heap} {x : Str} {ps : List Str} {k : Nat} {sp sp' : Sp} (D : Dk P w K mg base x ps k sp) (h : ∀ vs H Q E, sp' vs H Q E → sp vs H Q E) : Dk P w K mg base x ps k sp' := by
  obtain ⟨f, fd, F, r⟩ := D.ex
  exact ⟨f, fd, F.imp h, r⟩
theorem pe_dk {X : Cx} {x : Str} {ps : List Str} {k : Nat} {sp : Sp} {p pos : Pos} {e : Expr} {es : List Expr} {t : TA} (D : Dk X.prog X.w X.K X.mg X.base x ps k sp) (hr : Room k X.A) (hg : Gl X x) (ha : PA X (e :: es) t)
    (hdb : (x == ("__debug__" : Str)) = false := by decide) (he : starEach (e :: es) X.env = (false, eval e X.env) :: starEach es X.env := by rfl) (hpl : (backTo pos (starEach es X.env)).any (·.1) = false := by rfl) :
    PE X (.Call (.Name x p) (e :: es) [] pos) (tCall sp [] E0 t) := by
  obtain ⟨f, fd, F, hm, hk, hb⟩ := D.ex
  exact pe_call F hr hg hm hk hb .nil pass0 ha hdb he hpl
/-! ### what the top has written, beside the defs -/
structure Txt (K : PySem.W.Frag) (mg : Str → Option Value) : Prop where
  len : mg "len" = none
  range : mg "range" = none
  all : mg "all" = none
  list : mg "list" = none
  sorted : mg "sorted" = none
  zip : mg "zip" = none
  min : mg "min" = none
  int : mg "int" = none
  most : ∃ t, mg "MOST_ROOMS" = some (.int 24 t)
  letters : ∃ t, mg "LETTERS" = some (.str "abcdef" t)
theorem pe_gI {X : Cx} {x : Str} {i : Int} {pos : Pos} (hg : Gl X x) (hm : ∃ t, X.mg x = some (.int i t)) (hd : (x == ("__debug__" : Str)) = false := by decide) : PE X (.Name x pos) (tC (.int i)) := by
  obtain ⟨t, hm⟩ := hm
  exact pe_glob hg hm ⟨t, rfl⟩ hd
theorem pe_gS {X : Cx} {x z : Str} {pos : Pos} (hg : Gl X x) (hm : ∃ t, X.mg x = some (.str z t)) (hd : (x == ("__debug__" : Str)) = false := by decide) : PE X (.Name x pos) (tC (.str z)) := by
  obtain ⟨t, hm⟩ := hm
  exact pe_glob hg hm ⟨t, rfl⟩ hd
end FH
section
set_option autoImplicit false
/-! The mathematics: worlds as lists, ways, fair rooms, players. No program here. -/
namespace FH
abbrev Rising (xs : List Nat) : Prop := xs.Pairwise (· < ·)
theorem Rising.nodup {xs : List Nat} (h : Rising xs) : xs.Nodup := List.Pairwise.imp (fun h => Nat.ne_of_lt h) h
abbrev gs (S : List (List Nat)) (r : Nat) : List Nat := S.getD r []
structure Wd where
  own : List Nat
  marks : List (List Nat)
  steps : List (List Nat)
namespace Wd
def n (W : Wd) : Nat := W.own.length
def ow (W : Wd) (r : Nat) : Nat := W.own.getD r 0
def mks (W : Wd) (r : Nat) : List Nat := W.marks.getD r []
def st (W : Wd) (r : Nat) : List Nat := W.steps.getD r []
structure Ok (W : Wd) : Prop where
  pos : 1 ≤ W.n
  le : W.n ≤ 24
  lm : W.marks.length = W.n
  ls : W.steps.length = W.n
  ow : ∀ r, r < W.n → W.ow r < 2
  mks : ∀ r, r < W.n → Rising (W.mks r) ∧ ∀ m ∈ W.mks r, m < 6
  ne : ∀ r, r < W.n → W.st r ≠ []
  st : ∀ r, r < W.n → Rising (W.st r) ∧ ∀ t ∈ W.st r, t < W.n
def inner (W : Wd) (rooms : List Nat) : List (List Nat) := (List.range W.n).map fun r => (W.st r).filter fun t => decide (r ∈ rooms) && decide (t ∈ rooms)
theorem inner_len (W : Wd) (rooms : List Nat) : (W.inner rooms).length = W.n := by simp [inner]
theorem inner_at {W : Wd} {rooms : List Nat} {r : Nat} (h : r < W.n) : gs (W.inner rooms) r = (W.st r).filter fun t => decide (r ∈ rooms) && decide (t ∈ rooms) := by
  simp [gs, inner, List.getD_eq_getElem?_getD, List.getElem?_map, List.getElem?_range h]
theorem mem_inner {W : Wd} {rooms : List Nat} {r t : Nat} : t ∈ gs (W.inner rooms) r ↔ r < W.n ∧ t ∈ W.st r ∧ r ∈ rooms ∧ t ∈ rooms := by
  by_cases h : r < W.n
  · rw [inner_at h, List.mem_filter]
    simp [h]
  · have : gs (W.inner rooms) r = [] := by
      simp [gs, List.getD_eq_getElem?_getD, List.getElem?_eq_none (show (W.inner rooms).length ≤ r by rw [inner_len]; omega)]
    rw [this]
    simp [h]
end Wd
/-! ### lists without doubles -/
theorem sub_lt {xs ys : List Nat} (h : xs.Nodup) (s : ∀ x ∈ xs, x ∈ ys) {y : Nat} (hy : y ∈ ys) (hn : y ∉ xs) : xs.length < ys.length := by
  have : (y :: xs).Nodup := List.nodup_cons.mpr ⟨hn, h⟩
  have := this.length_le_of_subset (l₂ := ys) (by
    intro z hz
    rcases List.mem_cons.mp hz with rfl | hz
    · exact hy
    · exact s z hz)
  simp only [List.length_cons] at this; omega
theorem sub_le {xs ys : List Nat} (h : xs.Nodup) (s : ∀ x ∈ xs, x ∈ ys) : xs.length ≤ ys.length := h.length_le_of_subset s
theorem sub_all {xs ys : List Nat} (h : xs.Nodup) (s : ∀ x ∈ xs, x ∈ ys) (hl : ys.length ≤ xs.length) : ∀ y ∈ ys, y ∈ xs := fun y hy => by
  by_cases e : y ∈ xs
  · exact e
  · have := sub_lt h s hy e
    omega
theorem len_le_of_lt {xs : List Nat} {N : Nat} (h : xs.Nodup) (s : ∀ x ∈ xs, x < N) : xs.length ≤ N := by
  have := sub_le (ys := List.range N) h fun x hx => List.mem_range.mpr (s x hx)
  simpa using this
/-! ### reaching -/
inductive Rch (S : List (List Nat)) : Nat → Nat → Prop
  | refl (r : Nat) : Rch S r r
  | step {r t x : Nat} : t ∈ gs S r → Rch S t x → Rch S r x
theorem Rch.trans {S : List (List Nat)} {a b c : Nat} (h : Rch S a b) (g : Rch S b c) : Rch S a c := by
  induction h with
  | refl => exact g
  | step h1 _ ih => exact .step h1 (ih g)
theorem Rch.one {S : List (List Nat)} {a b : Nat} (h : b ∈ gs S a) : Rch S a b := .step h (.refl b)
theorem Rch.closed {S : List (List Nat)} {P : Nat → Prop} (hc : ∀ r t, P r → t ∈ gs S r → P t) {a b : Nat} (h : Rch S a b) : P a → P b := by
  induction h with
  | refl => exact id
  | step h1 _ ih => exact fun p => ih (hc _ _ p h1)
/-! ### leading -/
inductive Lead (S : List (List Nat)) (kept goal : List Nat) : Nat → Prop
  | base {r : Nat} : r ∈ kept → r ∈ goal → Lead S kept goal r
  | step {r t : Nat} : r ∈ kept → t ∈ gs S r → Lead S kept goal t → Lead S kept goal r
theorem Lead.kept {S : List (List Nat)} {kept goal : List Nat} {r : Nat} (h : Lead S kept goal r) : r ∈ kept := by
  cases h <;> assumption
theorem Lead.rch {S : List (List Nat)} {kept goal : List Nat} {r : Nat} (h : Lead S kept goal r) : ∃ x ∈ goal, Rch S r x := by
  induction h with
  | base _ g => exact ⟨_, g, .refl _⟩
  | step _ h1 _ ih =>
    obtain ⟨x, hx, hr⟩ := ih
    exact ⟨x, hx, .step h1 hr⟩
def ldNew (S : List (List Nat)) (kept found : List Nat) : List Nat := kept.filter fun r => decide (r ∉ found) && decide (0 < ((gs S r).filter fun t => decide (t ∈ found)).length)
structure LdInv (S : List (List Nat)) (kept goal found : List Nat) : Prop where
  nd : found.Nodup
  ld : ∀ r ∈ found, Lead S kept goal r
  bs : ∀ r ∈ kept, r ∈ goal → r ∈ found
theorem mem_ldNew {S : List (List Nat)} {kept found : List Nat} {r : Nat} : r ∈ ldNew S kept found ↔ r ∈ kept ∧ r ∉ found ∧ ∃ t ∈ gs S r, t ∈ found := by
  unfold ldNew
  rw [List.mem_filter, Bool.and_eq_true, decide_eq_true_eq, decide_eq_true_eq, List.length_pos_iff_exists_mem]
  simp [List.mem_filter]
theorem LdInv.start {S : List (List Nat)} {kept goal : List Nat} (h : kept.Nodup) : LdInv S kept goal (kept.filter fun r => decide (r ∈ goal)) := by
  refine ⟨h.filter _, fun r hr => ?_, fun r h1 h2 => ?_⟩
  · rw [List.mem_filter, decide_eq_true_eq] at hr
    exact .base hr.1 hr.2
  · rw [List.mem_filter, decide_eq_true_eq]
    exact ⟨h1, h2⟩
theorem LdInv.next {S : List (List Nat)} {kept goal found : List Nat} (hk : kept.Nodup) (I : LdInv S kept goal found) : LdInv S kept goal (found ++ ldNew S kept found) := by
  refine ⟨List.nodup_append.mpr ⟨I.nd, (hk.filter _ : (ldNew S kept found).Nodup), fun a ha b hb e => ?_⟩, fun r hr => ?_, fun r h1 h2 => List.mem_append_left _ (I.bs r h1 h2)⟩
  · subst e
    exact (mem_ldNew.mp hb).2.1 ha
  · rcases List.mem_append.mp hr with h | h
    · exact I.ld r h
    · obtain ⟨h1, _, t, h2, h3⟩ := mem_ldNew.mp h
      exact .step h1 h2 (I.ld t h3)
theorem LdInv.stop {S : List (List Nat)} {kept goal found : List Nat} (I : LdInv S kept goal found) (e : ldNew S kept found = []) {r : Nat} (h : Lead S kept goal r) : r ∈ found := by
  induction h with
  | base h1 h2 => exact I.bs _ h1 h2
  | step h1 h2 h3 ih =>
    rename_i r t
    by_cases hr : r ∈ found
    · exact hr
    · have : r ∈ ldNew S kept found := mem_ldNew.mpr ⟨h1, hr, t, h2, ih⟩
      rw [e] at this
      cases this
theorem LdInv.len {S : List (List Nat)} {kept goal found : List Nat} (I : LdInv S kept goal found) : found.length ≤ kept.length := sub_le I.nd fun x hx => (I.ld x hx).kept
/-! ### fair rooms -/
inductive LeadIn (W : Wd) (S : Nat → Prop) (m : Nat) : Nat → Prop
  | base {r : Nat} : S r → m ∈ W.mks r → LeadIn W S m r
  | step {r t : Nat} : S r → t ∈ W.st r → LeadIn W S m t → LeadIn W S m r
structure Good (W : Wd) (rooms marks : List Nat) (S : Nat → Prop) : Prop where
  room : ∀ r, S r → r ∈ rooms
  stp : ∀ r, S r → ∃ t ∈ W.st r, S t
  mrk : ∀ r, S r → ∀ m ∈ marks, LeadIn W S m r
structure FairRes (W : Wd) (rooms marks ys : List Nat) : Prop where
  rise : Rising ys
  sub : ∀ y ∈ ys, y ∈ rooms
  stp : ∀ y ∈ ys, ∃ t ∈ W.st y, t ∈ ys
  mrk : ∀ m ∈ marks, ∀ y ∈ ys, Lead (W.inner ys) ys (ys.filter fun r => decide (m ∈ W.mks r)) y
  max : ∀ S, Good W rooms marks S → ∀ r, S r → r ∈ ys
structure TkInv (W : Wd) (rooms marks kept : List Nat) : Prop where
  rise : Rising kept
  sub : ∀ y ∈ kept, y ∈ rooms
  max : ∀ S, Good W rooms marks S → ∀ r, S r → r ∈ kept
def stuckOf (W : Wd) (kept : List Nat) : List Nat := kept.filter fun r => decide ((gs (W.inner kept) r).length = 0)
def unstuck (W : Wd) (kept : List Nat) : List Nat := kept.filter fun r => decide (r ∉ stuckOf W kept)
def mOf (W : Wd) (kept : List Nat) (m : Nat) : List Nat := kept.filter fun r => decide (m ∈ W.mks r)
theorem TkInv.start {W : Wd} {rooms marks : List Nat} (h : Rising rooms) : TkInv W rooms marks rooms := ⟨h, fun _ h => h, fun S G r hr => G.room r hr⟩
theorem mem_stuck {W : Wd} {kept : List Nat} {r : Nat} : r ∈ stuckOf W kept ↔ r ∈ kept ∧ gs (W.inner kept) r = [] := by
  unfold stuckOf
  rw [List.mem_filter, decide_eq_true_eq, List.length_eq_zero_iff]
theorem TkInv.unstuck {W : Wd} {rooms marks kept : List Nat} (hn : ∀ r ∈ rooms, r < W.n) (I : TkInv W rooms marks kept) : TkInv W rooms marks (unstuck W kept) := by
  refine ⟨I.rise.filter _, fun y hy => I.sub y (List.mem_filter.mp hy).1, fun S G r hr => ?_⟩
  unfold FH.unstuck
  rw [List.mem_filter, decide_eq_true_eq]
  refine ⟨I.max S G r hr, fun h => ?_⟩
  obtain ⟨t, ht, hs⟩ := G.stp r hr
  have : t ∈ gs (W.inner kept) r := Wd.mem_inner.mpr ⟨hn r (G.room r hr), ht, I.max S G r hr, I.max S G t hs⟩
  rw [(mem_stuck.mp h).2] at this
  cases this
theorem unstuck_lt {W : Wd} {kept : List Nat} (h : stuckOf W kept ≠ []) : (unstuck W kept).length < kept.length := by
  obtain ⟨r, hr⟩ := List.exists_mem_of_ne_nil _ h
  unfold unstuck
  rw [List.length_filter_lt_length_iff_exists]
  exact ⟨r, (mem_stuck.mp hr).1, by simpa using hr⟩
theorem unstuck_nil {W : Wd} {kept : List Nat} (h : stuckOf W kept = []) : unstuck W kept = kept := by
  unfold unstuck
  rw [h]
  exact List.filter_eq_self.mpr fun a _ => by simp
theorem TkInv.near {W : Wd} {rooms marks kept near : List Nat} {m : Nat} (hn : ∀ r ∈ rooms, r < W.n) (I : TkInv W rooms marks kept) (hm : m ∈ marks) (hr : Rising near)
    (h : ∀ y, y ∈ near ↔ Lead (W.inner kept) kept (mOf W kept m) y) : TkInv W rooms marks near := by
  refine ⟨hr, fun y hy => I.sub y ((h y).mp hy).kept, fun S G r hr => (h r).mpr ?_⟩
  have := G.mrk r hr m hm
  clear hr
  induction this with
  | base h1 h2 => exact .base (I.max S G _ h1) (List.mem_filter.mpr ⟨I.max S G _ h1, by simpa using h2⟩)
  | step h1 h2 h3 ih =>
    have ht := ih.kept
    exact .step (I.max S G _ h1) (Wd.mem_inner.mpr ⟨hn _ (I.sub _ (I.max S G _ h1)), h2, I.max S G _ h1, ht⟩) ih
/-- what the loop over the marks keeps: kept0 the rooms ahead of the turn, done the marks that are through -/
structure TkIn (W : Wd) (rooms marks kept0 done : List Nat) (more : Bool) (kept : List Nat) : Prop where
  tk : TkInv W rooms marks kept
  le : kept.length ≤ kept0.length
  lt : more = true → kept.length < kept0.length
  eq : more = false → kept = kept0 ∧ stuckOf W kept0 = [] ∧ ∀ m ∈ done, ∀ y ∈ kept0, Lead (W.inner kept0) kept0 (mOf W kept0 m) y
theorem TkIn.start {W : Wd} {rooms marks kept0 : List Nat} (hn : ∀ r ∈ rooms, r < W.n) (I : TkInv W rooms marks kept0) : TkIn W rooms marks kept0 [] (decide (0 < (stuckOf W kept0).length)) (unstuck W kept0) := by
  by_cases h : stuckOf W kept0 = []
  · rw [unstuck_nil h]
    refine ⟨I, Nat.le_refl _, fun e => ?_, fun _ => ⟨rfl, h, fun m hm => by cases hm⟩⟩
    rw [h] at e
    simp at e
  · have hl := unstuck_lt h
    refine ⟨I.unstuck hn, Nat.le_of_lt hl, fun _ => hl, fun e => ?_⟩
    have : ¬ 0 < (stuckOf W kept0).length := by simpa using e
    exact absurd (List.length_pos_iff.mpr h) this
theorem TkIn.skip {W : Wd} {rooms marks kept0 done kept near : List Nat} {more : Bool} {m : Nat} (I : TkIn W rooms marks kept0 done more kept)
    (h : ∀ y, y ∈ near ↔ Lead (W.inner kept) kept (mOf W kept m) y) (far : (kept.filter fun r => decide (r ∉ near)) = []) : TkIn W rooms marks kept0 (done ++ [m]) more kept := by
  refine ⟨I.tk, I.le, I.lt, fun e => ?_⟩
  obtain ⟨e1, e2, e3⟩ := I.eq e
  subst e1
  refine ⟨rfl, e2, fun k hk y hy => ?_⟩
  rcases List.mem_append.mp hk with hk | hk
  · exact e3 k hk y hy
  · rw [List.mem_singleton.mp hk]
    refine (h y).mp ?_
    have := List.filter_eq_nil_iff.mp far y hy
    simpa using this
theorem TkIn.take {W : Wd} {rooms marks kept0 done kept near : List Nat} {more : Bool} {m : Nat} (hn : ∀ r ∈ rooms, r < W.n) (I : TkIn W rooms marks kept0 done more kept) (hm : m ∈ marks) (hr : Rising near)
    (h : ∀ y, y ∈ near ↔ Lead (W.inner kept) kept (mOf W kept m) y) (far : (kept.filter fun r => decide (r ∉ near)) ≠ []) : TkIn W rooms marks kept0 (done ++ [m]) true near := by
  obtain ⟨r, hr2⟩ := List.exists_mem_of_ne_nil _ far
  rw [List.mem_filter, decide_eq_true_eq] at hr2
  have hl : near.length < kept.length := sub_lt hr.nodup (fun x hx => ((h x).mp hx).kept) hr2.1 hr2.2
  have := I.le
  exact ⟨I.tk.near hn hm hr h, by omega, fun _ => by omega, fun e => by cases e⟩
theorem TkIn.fair {W : Wd} {rooms marks kept0 kept : List Nat} (hn : ∀ r ∈ rooms, r < W.n) (I : TkIn W rooms marks kept0 marks false kept) : FairRes W rooms marks kept := by
  obtain ⟨e1, e2, e3⟩ := I.eq rfl
  subst e1
  refine ⟨I.tk.rise, I.tk.sub, fun y hy => ?_, fun m hm y hy => e3 m hm y hy, I.tk.max⟩
  have : y ∉ stuckOf W kept := by rw [e2]; simp
  have h2 : gs (W.inner kept) y ≠ [] := fun e => this (mem_stuck.mpr ⟨hy, e⟩)
  obtain ⟨t, ht⟩ := List.exists_mem_of_ne_nil _ h2
  obtain ⟨_, h3, _, h4⟩ := Wd.mem_inner.mp ht
  exact ⟨t, h3, h4⟩
/-! ### chains -/
def IsCh (S : List (List Nat)) (xs : List Nat) : Prop := ∀ i x y, xs[i]? = some x → xs[i + 1]? = some y → y ∈ gs S x
theorem IsCh.one {S : List (List Nat)} {a : Nat} : IsCh S [a] := fun i x y _ h => by simp at h
theorem IsCh.two {S : List (List Nat)} {a b : Nat} (h : b ∈ gs S a) : IsCh S [a, b] := fun i x y h1 h2 => by
  match i, h1, h2 with
  | 0, h1, h2 =>
    cases h1
    cases h2
    exact h
  | i + 1, h1, h2 => simp at h2
theorem IsCh.app {S : List (List Nat)} {xs ys : List Nat} (h1 : IsCh S xs) (h2 : IsCh S ys) (h : ∀ x y, xs.getLast? = some x → ys.head? = some y → y ∈ gs S x) : IsCh S (xs ++ ys) := fun i x y hx hy => by
  by_cases h3 : i + 1 < xs.length
  · rw [List.getElem?_append_left (by omega)] at hx
    rw [List.getElem?_append_left h3] at hy
    exact h1 i x y hx hy
  · by_cases h4 : i < xs.length
    · rw [List.getElem?_append_left h4] at hx
      rw [List.getElem?_append_right (by omega), show i + 1 - xs.length = 0 by omega] at hy
      refine h x y ?_ ?_
      · rw [List.getLast?_eq_getElem?, show xs.length - 1 = i by omega]
        exact hx
      · rw [List.head?_eq_getElem?]
        exact hy
    · rw [List.getElem?_append_right (by omega)] at hx hy
      rw [show i + 1 - xs.length = (i - xs.length) + 1 by omega] at hy
      exact h2 _ x y hx hy
theorem IsCh.tail {S : List (List Nat)} {a : Nat} {xs : List Nat} (h : IsCh S (a :: xs)) : IsCh S xs := fun i x y hx hy => h (i + 1) x y (by simpa using hx) (by simpa using hy)
theorem IsCh.rch {S : List (List Nat)} {a : Nat} {xs : List Nat} (h : IsCh S (a :: xs)) : ∀ x ∈ a :: xs, Rch S a x := fun x hx => by
  obtain ⟨i, hi⟩ := List.getElem?_of_mem hx
  induction i generalizing x with
  | zero =>
    cases hi
    exact .refl _
  | succ i ih =>
    have h1 := (List.getElem?_eq_some_iff.mp hi).1
    have h2 : (a :: xs)[i]? = some (a :: xs)[i] := List.getElem?_eq_getElem (by omega)
    exact (ih _ (List.getElem_mem _) h2).trans (.one (h i _ x h2 hi))
/-- a ring or front's rest, tied on: xs ends where ys begins -/
theorem IsCh.tie {S : List (List Nat)} {xs ys : List Nat} {x : Nat} (h1 : IsCh S (xs ++ [x])) (h2 : IsCh S (x :: ys)) : IsCh S (xs ++ x :: ys) := by
  have : xs ++ x :: ys = (xs ++ [x]) ++ ys := by simp
  rw [this]
  refine h1.app h2.tail fun a b ha hb => ?_
  rw [List.getLast?_concat] at ha
  cases ha
  cases ys with
  | nil => cases hb
  | cons c r =>
    cases hb
    exact h2 0 x _ rfl rfl
/-! ### the search for a way -/
structure GOk (S : List (List Nat)) : Prop where
  nd : ∀ r, (gs S r).Nodup
  lt : ∀ r, ∀ t ∈ gs S r, t < S.length
theorem Wd.Ok.inner {W : Wd} (h : W.Ok) (rooms : List Nat) : GOk (W.inner rooms) := by
  refine ⟨fun r => ?_, fun r t ht => ?_⟩
  · by_cases hr : r < W.n
    · rw [Wd.inner_at hr]
      exact (h.st r hr).1.nodup.filter _
    · have : gs (W.inner rooms) r = [] := by
        simp [gs, List.getD_eq_getElem?_getD, List.getElem?_eq_none (show (W.inner rooms).length ≤ r by rw [Wd.inner_len]; omega)]
      rw [this]
      exact List.nodup_nil
  · obtain ⟨h1, h2, _⟩ := Wd.mem_inner.mp ht
    rw [Wd.inner_len]
    exact (h.st r h1).2 t h2
structure Bf (S : List (List Nat)) (room : Nat) (goal : List Nat) (todo : List (List Nat)) (ks : List Nat) : Prop where
  path : ∀ p ∈ todo, p ≠ [] ∧ IsCh S (room :: p)
  nd : ks.Nodup
  lt : ∀ k ∈ ks, k < S.length
  fst : ∀ t ∈ gs S room, t ∈ ks
  ok : ∀ k ∈ ks, (∃ p ∈ todo, p.getLast? = some k) ∨ (k ∉ goal ∧ ∀ t ∈ gs S k, t ∈ ks)
  sz : ∀ p ∈ todo, p.length ≤ ks.length
  cnt : todo.length ≤ ks.length
theorem Bf.start {S : List (List Nat)} {room : Nat} {goal : List Nat} (G : GOk S) : Bf S room goal ((gs S room).map fun t => [t]) (gs S room) := by
  refine ⟨fun p hp => ?_, G.nd room, G.lt room, fun _ h => h, fun k hk => .inl ⟨[k], List.mem_map.mpr ⟨k, hk, rfl⟩, rfl⟩, fun p hp => ?_, by rw [List.length_map]; exact Nat.le_refl _⟩
  · obtain ⟨t, ht, rfl⟩ := List.mem_map.mp hp
    exact ⟨by simp, .two ht⟩
  · obtain ⟨t, ht, rfl⟩ := List.mem_map.mp hp
    exact List.length_pos_of_mem ht
def bfNew (S : List (List Nat)) (l : Nat) (ks : List Nat) : List Nat := (gs S l).filter fun t => decide (t ∉ ks)
theorem Bf.next {S : List (List Nat)} {room l : Nat} {goal found : List Nat} {todo : List (List Nat)} {ks : List Nat} (G : GOk S) (B : Bf S room goal (found :: todo) ks) (hl : found.getLast? = some l) (hg : l ∉ goal) :
    Bf S room goal (todo ++ (bfNew S l ks).map fun t => found ++ [t]) (ks ++ bfNew S l ks) := by
  refine ⟨fun p hp => ?_, List.nodup_append.mpr ⟨B.nd, (G.nd l).filter _, fun a ha b hb e => ?_⟩, fun k hk => ?_, fun t ht => List.mem_append_left _ (B.fst t ht), fun k hk => ?_, fun p hp => ?_, by
    have h1 := B.cnt
    rw [List.length_cons] at h1
    rw [List.length_append, List.length_append, List.length_map]
    omega⟩
  · rcases List.mem_append.mp hp with h | h
    · exact B.path p (List.mem_cons_of_mem _ h)
    · obtain ⟨t, ht, rfl⟩ := List.mem_map.mp h
      refine ⟨by simp, ?_⟩
      have h1 := (B.path found List.mem_cons_self).2
      have : room :: (found ++ [t]) = (room :: found) ++ [t] := by simp
      rw [this]
      refine h1.app .one fun x y hx hy => ?_
      cases hy
      have e : (room :: found).getLast? = some l := by
        rw [List.getLast?_cons, hl]
        rfl
      rw [e] at hx
      cases hx
      exact (List.mem_filter.mp ht).1
  · subst e
    have := (List.mem_filter.mp hb).2
    simp only [decide_eq_true_eq] at this
    exact this ha
  · rcases List.mem_append.mp hk with h | h
    · exact B.lt k h
    · exact G.lt l k (List.mem_filter.mp h).1
  · by_cases hk2 : k ∈ ks
    · rcases B.ok k hk2 with ⟨p, hp, e⟩ | ⟨h1, h2⟩
      · rcases List.mem_cons.mp hp with rfl | hp
        · rw [hl] at e
          cases e
          refine .inr ⟨hg, fun t ht => ?_⟩
          by_cases htk : t ∈ ks
          · exact List.mem_append_left _ htk
          · exact List.mem_append_right _ (List.mem_filter.mpr ⟨ht, by simpa using htk⟩)
        · exact .inl ⟨p, List.mem_append_left _ hp, e⟩
      · exact .inr ⟨h1, fun t ht => List.mem_append_left _ (h2 t ht)⟩
    · rcases List.mem_append.mp hk with h | h
      · exact absurd h hk2
      · exact .inl ⟨found ++ [k], List.mem_append_right _ (List.mem_map.mpr ⟨k, h, rfl⟩), by simp⟩
  · rw [List.length_append]
    rcases List.mem_append.mp hp with h | h
    · have := B.sz p (List.mem_cons_of_mem _ h)
      omega
    · obtain ⟨t, ht, rfl⟩ := List.mem_map.mp h
      have h1 := B.sz found List.mem_cons_self
      have h2 := List.length_pos_of_mem ht
      rw [List.length_append]
      show found.length + 1 ≤ _
      omega
theorem Bf.some {S : List (List Nat)} {room : Nat} {goal ks : List Nat} (B : Bf S room goal [] ks) (h : ∃ t ∈ gs S room, ∃ x ∈ goal, Rch S t x) : False := by
  obtain ⟨t, ht, x, hx, hr⟩ := h
  have key : ∀ k ∈ ks, k ∉ goal ∧ ∀ t ∈ gs S k, t ∈ ks := fun k hk => by
    rcases B.ok k hk with ⟨p, hp, _⟩ | h
    · cases hp
    · exact h
  have := Rch.closed (P := fun k => k ∈ ks) (fun r t hr ht => (key r hr).2 t ht) hr (B.fst t ht)
  exact (key x this).1 hx
theorem Bf.size {S : List (List Nat)} {room : Nat} {goal : List Nat} {todo : List (List Nat)} {ks : List Nat} (B : Bf S room goal todo ks) : ks.length ≤ S.length := len_le_of_lt B.nd B.lt
/-- what walk_to hands back -/
structure IsWalk (S : List (List Nat)) (room : Nat) (goal p : List Nat) : Prop where
  ne : p ≠ []
  ch : IsCh S (room :: p)
  last : ∃ x, p.getLast? = some x ∧ x ∈ goal
/-! ### all that is reached -/
structure IsReach (S : List (List Nat)) (room : Nat) (ys : List Nat) : Prop where
  nd : ys.Nodup
  mem : ∀ y, y ∈ ys ↔ Rch S room y
structure Ro (S : List (List Nat)) (room : Nat) (fs : List Nat) (k : Nat) : Prop where
  nd : fs.Nodup
  has : room ∈ fs
  rch : ∀ r ∈ fs, Rch S room r
  lt : ∀ r ∈ fs, r < S.length
  le : k ≤ fs.length
  cl : ∀ (i r : Nat), i < k → fs[i]? = some r → ∀ t ∈ gs S r, t ∈ fs
theorem Ro.start {S : List (List Nat)} {room : Nat} (h : room < S.length) : Ro S room [room] 0 :=
  ⟨by simp, by simp, fun r hr => by rw [List.mem_singleton.mp hr]; exact .refl _, fun r hr => by rw [List.mem_singleton.mp hr]; exact h, Nat.zero_le _, fun i r hi => absurd hi (Nat.not_lt_zero _)⟩
theorem Ro.next {S : List (List Nat)} {room k r : Nat} {fs : List Nat} (G : GOk S) (R : Ro S room fs k) (hk : fs[k]? = some r) : Ro S room (fs ++ (gs S r).filter fun t => decide (t ∉ fs)) (k + 1) := by
  have hr : r ∈ fs := List.mem_of_getElem? hk
  have hlt := (List.getElem?_eq_some_iff.mp hk).1
  refine ⟨List.nodup_append.mpr ⟨R.nd, (G.nd r).filter _, fun a ha b hb e => ?_⟩, List.mem_append_left _ R.has, fun x hx => ?_, fun x hx => ?_, by rw [List.length_append]; omega, fun i x hi hx t ht => ?_⟩
  · subst e
    have := (List.mem_filter.mp hb).2
    simp only [decide_eq_true_eq] at this
    exact this ha
  · rcases List.mem_append.mp hx with h | h
    · exact R.rch x h
    · exact (R.rch r hr).trans (.one (List.mem_filter.mp h).1)
  · rcases List.mem_append.mp hx with h | h
    · exact R.lt x h
    · exact G.lt r x (List.mem_filter.mp h).1
  · rw [List.getElem?_append_left (by omega)] at hx
    by_cases e : i < k
    · exact List.mem_append_left _ (R.cl i x e hx t ht)
    · have : i = k := by omega
      subst this
      rw [hk] at hx
      cases hx
      by_cases htf : t ∈ fs
      · exact List.mem_append_left _ htf
      · exact List.mem_append_right _ (List.mem_filter.mpr ⟨ht, by simpa using htf⟩)
theorem Ro.stop {S : List (List Nat)} {room : Nat} {fs : List Nat} (R : Ro S room fs fs.length) : IsReach S room fs := by
  refine ⟨R.nd, fun y => ⟨R.rch y, fun h => ?_⟩⟩
  refine Rch.closed (P := fun k => k ∈ fs) (fun r t hr ht => ?_) h R.has
  obtain ⟨i, hi⟩ := List.getElem?_of_mem hr
  exact R.cl i r (List.getElem?_eq_some_iff.mp hi).1 hi t ht
theorem Ro.size {S : List (List Nat)} {room k : Nat} {fs : List Nat} (R : Ro S room fs k) : fs.length ≤ S.length := len_le_of_lt R.nd R.lt
/-- a room that reaches the fewest is reached back -/
theorem home_back {S : List (List Nat)} {room h : Nat} {ys : List Nat} (hh : Rch S room h) (hy : IsReach S h ys) (hm : ∀ o, Rch S room o → ∃ zs, IsReach S o zs ∧ ys.length ≤ zs.length) {o : Nat} (ho : Rch S h o) : Rch S o h := by
  obtain ⟨zs, hz, hl⟩ := hm o (hh.trans ho)
  have := sub_all hz.nd (fun x hx => (hy.mem x).mpr (ho.trans ((hz.mem x).mp hx))) hl h ((hy.mem h).mpr (.refl h))
  exact (hz.mem h).mp this
/-! ### a fair way -/
structure WayOk (W : Wd) (front ring : List Nat) : Prop where
  ne : ring ≠ []
  lt : ∀ x ∈ front ++ ring, x < W.n
  ch : ∀ (i x y : Nat), (front ++ ring)[i]? = some x → ((front ++ ring).drop 1 ++ ring.take 1)[i]? = some y → y ∈ W.st x
structure FairWay (W : Wd) (rooms marks front ring : List Nat) : Prop where
  ok : WayOk W front ring
  sub : ∀ x ∈ front ++ ring, x ∈ rooms
  mrk : ∀ m ∈ marks, ∃ x ∈ ring, m ∈ W.mks x
structure RingInv (W : Wd) (kept : List Nat) (home : Nat) (done ring : List Nat) : Prop where
  hd : ∃ tl, ring = home :: tl
  ch : IsCh (W.inner kept) ring
  mem : ∀ x ∈ ring, x ∈ kept
  mrk : ∀ m ∈ done, ∃ x ∈ ring, m ∈ W.mks x
theorem RingInv.start {W : Wd} {kept : List Nat} {home : Nat} (h : home ∈ kept) : RingInv W kept home [] [home] :=
  ⟨⟨[], rfl⟩, .one, fun x hx => by rw [List.mem_singleton.mp hx]; exact h, fun m hm => by cases hm⟩
theorem walk_kept {W : Wd} {kept p goal : List Nat} {r : Nat} (hr : r ∈ kept) (h : IsWalk (W.inner kept) r goal p) : ∀ x ∈ p, x ∈ kept := fun x hx => by
  have := h.ch.rch x (List.mem_cons_of_mem _ hx)
  exact Rch.closed (P := fun k => k ∈ kept) (fun r t _ ht => (Wd.mem_inner.mp ht).2.2.2) this hr
theorem RingInv.last {W : Wd} {kept done ring : List Nat} {home : Nat} (R : RingInv W kept home done ring) : ∃ l, ring.getLast? = some l ∧ l ∈ ring ∧ Rch (W.inner kept) home l := by
  obtain ⟨tl, e⟩ := R.hd
  have hne : ring ≠ [] := by rw [e]; simp
  refine ⟨ring.getLast hne, List.getLast?_eq_some_getLast hne, List.getLast_mem hne, ?_⟩
  have h1 := R.ch
  have h2 := List.getLast_mem hne
  rw [e] at h1
  exact h1.rch _ (by rw [← e]; exact h2)
theorem RingInv.next {W : Wd} {kept done ring p goal : List Nat} {home m l : Nat} (R : RingInv W kept home done ring) (hl : ring.getLast? = some l) (h : IsWalk (W.inner kept) l goal p) (hg : ∀ x ∈ goal, m ∈ W.mks x) : RingInv W kept home (done ++ [m]) (ring ++ p) := by
  obtain ⟨tl, e⟩ := R.hd
  have hlm : l ∈ ring := List.mem_of_getLast? hl
  refine ⟨⟨tl ++ p, by rw [e]; rfl⟩, ?_, fun x hx => ?_, fun k hk => ?_⟩
  · refine R.ch.app h.ch.tail fun x y hx hy => ?_
    rw [hl] at hx
    cases hx
    have : (l :: p)[1]? = some y := by
      rw [List.head?_eq_getElem?] at hy
      exact hy
    exact h.ch 0 l y rfl this
  · rcases List.mem_append.mp hx with hx | hx
    · exact R.mem x hx
    · exact walk_kept (R.mem l hlm) h x hx
  · rcases List.mem_append.mp hk with hk | hk
    · obtain ⟨x, hx, hm⟩ := R.mrk k hk
      exact ⟨x, List.mem_append_left _ hx, hm⟩
    · obtain ⟨x, hx, hg2⟩ := h.last
      rw [List.mem_singleton.mp hk]
      exact ⟨x, List.mem_append_right _ (List.mem_of_getLast? hx), hg x hg2⟩
/-- the ring closed, the front tied on -/
theorem fair_way_ok {W : Wd} {rooms marks kept ring p front : List Nat} {home l : Nat} (hn : ∀ r ∈ kept, r < W.n) (hs : ∀ r ∈ kept, r ∈ rooms) (R : RingInv W kept home marks ring) (hl : ring.getLast? = some l)
    (h : IsWalk (W.inner kept) l [home] p) (hf : IsCh (W.inner kept) (front ++ [home])) (hfk : ∀ x ∈ front, x ∈ kept) : FairWay W rooms marks front (ring ++ p).dropLast := by
  obtain ⟨tl, e⟩ := R.hd
  have hlm : l ∈ ring := List.mem_of_getLast? hl
  obtain ⟨x, hx, hxh⟩ := h.last
  have hxh : x = home := List.mem_singleton.mp hxh
  subst hxh
  have hp : p = p.dropLast ++ [x] := by
    have h1 := List.dropLast_concat_getLast h.ne
    rw [List.getLast?_eq_some_getLast h.ne] at hx
    rw [← Option.some.inj hx]
    exact h1.symm
  have hd : (ring ++ p).dropLast = ring ++ p.dropLast := by
    rw [hp, ← List.append_assoc]
    simp
  have hpk : ∀ y ∈ p, y ∈ kept := walk_kept (R.mem l hlm) h
  have hall : ∀ y ∈ front ++ (ring ++ p).dropLast, y ∈ kept := fun y hy => by
    rw [hd] at hy
    rcases List.mem_append.mp hy with hy | hy
    · exact hfk y hy
    · rcases List.mem_append.mp hy with hy | hy
      · exact R.mem y hy
      · exact hpk y (List.dropLast_subset _ hy)
  have chr : IsCh (W.inner kept) (ring ++ p) := by
    refine R.ch.app h.ch.tail fun a b ha hb => ?_
    rw [hl] at ha
    cases ha
    have : (l :: p)[1]? = some b := by
      rw [List.head?_eq_getElem?] at hb
      exact hb
    exact h.ch 0 l b rfl this
  have chall : IsCh (W.inner kept) (front ++ (ring ++ p)) := by
    rw [e] at chr ⊢
    exact IsCh.tie hf chr
  have eall : front ++ (ring ++ p) = (front ++ (ring ++ p).dropLast) ++ [x] := by
    rw [hd, List.append_assoc, List.append_assoc, ← hp]
  have hring : (ring ++ p).dropLast.take 1 = [x] := by
    rw [hd, e]
    rfl
  refine ⟨⟨?_, fun y hy => hn y (hall y hy), fun i a b ha hb => ?_⟩, fun y hy => hs y (hall y hy), fun m hm => ?_⟩
  · rw [hd, e]
    simp
  · rw [hring] at hb
    generalize front ++ (ring ++ p).dropLast = C at ha hb eall
    have h1 : (C ++ [x])[i]? = some a := by
      rw [List.getElem?_append_left (List.getElem?_eq_some_iff.mp ha).1]
      exact ha
    have h2 : (C ++ [x])[i + 1]? = some b := by
      have hc : C.drop 1 ++ [x] = (C ++ [x]).drop 1 := by
        cases C with
        | nil => cases ha
        | cons c r => rfl
      rw [hc, List.getElem?_drop, Nat.add_comm] at hb
      exact hb
    rw [← eall] at h1 h2
    exact (Wd.mem_inner.mp (chall i a b h1 h2)).2.1
  · obtain ⟨y, hy, hm2⟩ := R.mrk m hm
    exact ⟨y, by rw [hd]; exact List.mem_append_left _ hy, hm2⟩
theorem front_ok {W : Wd} {kept p : List Nat} {room home : Nat} (hr : room ∈ kept) (h : IsWalk (W.inner kept) room [home] p) : IsCh (W.inner kept) ((room :: p.dropLast) ++ [home]) ∧ ∀ x ∈ room :: p.dropLast, x ∈ kept := by
  obtain ⟨x, hx, hxh⟩ := h.last
  have hxh : x = home := List.mem_singleton.mp hxh
  subst hxh
  have hp : p.dropLast ++ [x] = p := by
    have h1 := List.dropLast_concat_getLast h.ne
    rw [List.getLast?_eq_some_getLast h.ne] at hx
    rw [← Option.some.inj hx]
    exact h1
  refine ⟨?_, fun y hy => ?_⟩
  · show IsCh _ (room :: (p.dropLast ++ [x]))
    rw [hp]
    exact h.ch
  · rcases List.mem_cons.mp hy with rfl | hy
    · exact hr
    · exact walk_kept hr h y (List.dropLast_subset _ hy)
/-- the search has an end: in fair rooms -/
theorem FairRes.inner_stp {W : Wd} {rooms marks ys : List Nat} (hn : ∀ r ∈ rooms, r < W.n) (F : FairRes W rooms marks ys) {y : Nat} (hy : y ∈ ys) : ∃ t ∈ gs (W.inner ys) y, t ∈ ys := by
  obtain ⟨t, h1, h2⟩ := F.stp y hy
  exact ⟨t, Wd.mem_inner.mpr ⟨hn y (F.sub y hy), h1, hy, h2⟩, h2⟩
theorem FairRes.to_mark {W : Wd} {rooms marks ys : List Nat} {m : Nat} (hn : ∀ r ∈ rooms, r < W.n) (F : FairRes W rooms marks ys) (hm : m ∈ marks) {y : Nat} (hy : y ∈ ys) : ∃ t ∈ gs (W.inner ys) y, ∃ x ∈ mOf W ys m, Rch (W.inner ys) t x := by
  obtain ⟨t, h1, h2⟩ := F.inner_stp hn hy
  exact ⟨t, h1, (F.mrk m hm t h2).rch⟩
theorem FairRes.to_home {W : Wd} {rooms marks ys : List Nat} {home l : Nat} (hn : ∀ r ∈ rooms, r < W.n) (F : FairRes W rooms marks ys) (hb : ∀ o, Rch (W.inner ys) home o → Rch (W.inner ys) o home) (hl : Rch (W.inner ys) home l) (hy : l ∈ ys) :
    ∃ t ∈ gs (W.inner ys) l, ∃ x ∈ [home], Rch (W.inner ys) t x := by
  obtain ⟨t, h1, h2⟩ := F.inner_stp hn hy
  exact ⟨t, h1, home, by simp, hb t (hl.trans (.one h1))⟩
theorem front_way {S : List (List Nat)} {room home : Nat} (h : Rch S room home) (hne : room ≠ home) : ∃ t ∈ gs S room, ∃ x ∈ [home], Rch S t x := by
  cases h with
  | refl => exact absurd rfl hne
  | step h1 h2 => exact ⟨_, h1, home, by simp, h2⟩
/-! ### players -/
abbrev rg (rk : List (Option Nat)) (r : Nat) : Option Nat := rk.getD r none
def canNow (W : Wd) (p r : Nat) (f : Nat → Bool) : Bool := if W.ow r = p then (W.st r).any f else (W.st r).all f
theorem canNow_mono {W : Wd} {p r : Nat} {f g : Nat → Bool} (h : ∀ t, f t = true → g t = true) (c : canNow W p r f = true) : canNow W p r g = true := by
  unfold canNow at c ⊢
  split at c
  · rename_i e
    rw [if_pos e]
    obtain ⟨t, ht, hf⟩ := List.any_eq_true.mp c
    exact List.any_eq_true.mpr ⟨t, ht, h t hf⟩
  · rename_i e
    rw [if_neg e]
    exact List.all_eq_true.mpr fun t ht => h t (List.all_eq_true.mp c t ht)
theorem canNow_congr {W : Wd} {p r : Nat} {f g : Nat → Bool} (h : ∀ t ∈ W.st r, f t = g t) : canNow W p r f = canNow W p r g := by
  unfold canNow
  have e1 : (W.st r).any f = (W.st r).any g := by
    rw [Bool.eq_iff_iff, List.any_eq_true, List.any_eq_true]
    exact ⟨fun ⟨t, ht, hf⟩ => ⟨t, ht, by rw [← h t ht]; exact hf⟩, fun ⟨t, ht, hf⟩ => ⟨t, ht, by rw [h t ht]; exact hf⟩⟩
  have e2 : (W.st r).all f = (W.st r).all g := by
    rw [Bool.eq_iff_iff, List.all_eq_true, List.all_eq_true]
    exact ⟨fun k t ht => by rw [← h t ht]; exact k t ht, fun k t ht => by rw [h t ht]; exact k t ht⟩
  rw [e1, e2]
theorem canNow_mine {W : Wd} {p r : Nat} {f : Nat → Bool} (e : W.ow r = p) : canNow W p r f = true ↔ ∃ t ∈ W.st r, f t = true := by
  unfold canNow
  rw [if_pos e, List.any_eq_true]
theorem canNow_oth {W : Wd} {p r : Nat} {f : Nat → Bool} (e : W.ow r ≠ p) : canNow W p r f = true ↔ ∀ t ∈ W.st r, f t = true := by
  unfold canNow
  rw [if_neg e, List.all_eq_true]
def below (rk : List (Option Nat)) (j t : Nat) : Bool := match rg rk t with
  | some i => decide (i ≤ j)
  | none => false
theorem below_iff {rk : List (Option Nat)} {j t : Nat} : below rk j t = true ↔ ∃ i, rg rk t = some i ∧ i ≤ j := by
  unfold below
  cases h : rg rk t with
  | none => simp
  | some i => simp
structure BrInv (W : Wd) (p : Nat) (rooms within had : List Nat) (rank : Nat) (rk : List (Option Nat)) : Prop where
  len : rk.length = W.n
  zero : ∀ r, r < W.n → (rg rk r = some 0 ↔ r ∈ rooms ∧ r ∈ within)
  sub : ∀ r j, rg rk r = some j → r < W.n ∧ r ∈ within
  pos : ∀ r j, rg rk r = some (j + 1) → canNow W p r (fun t => decide (t ∈ had) || below rk j t) = true
  max : ∀ r j, rg rk r = some j → j ≤ rank
structure Brought (W : Wd) (p : Nat) (rooms within had : List Nat) (rk : List (Option Nat)) : Prop where
  len : rk.length = W.n
  zero : ∀ r, r < W.n → (rg rk r = some 0 ↔ r ∈ rooms ∧ r ∈ within)
  sub : ∀ r j, rg rk r = some j → r < W.n ∧ r ∈ within
  pos : ∀ r j, rg rk r = some (j + 1) → canNow W p r (fun t => decide (t ∈ had) || below rk j t) = true
  top : ∀ r ∈ within, rg rk r = none → canNow W p r (fun t => decide (t ∈ had) || (rg rk t).isSome) = false
def br0 (n : Nat) (rooms within : List Nat) : List (Option Nat) := (List.range n).map fun r => if r ∈ rooms ∧ r ∈ within then some 0 else none
theorem br0_at {n r : Nat} {rooms within : List Nat} (h : r < n) : rg (br0 n rooms within) r = if r ∈ rooms ∧ r ∈ within then some 0 else none := by
  simp [rg, br0, List.getD_eq_getElem?_getD, List.getElem?_map, List.getElem?_range h]
theorem rg_out {rk : List (Option Nat)} {r : Nat} (h : ¬ r < rk.length) : rg rk r = none := by
  simp [rg, List.getD_eq_getElem?_getD, List.getElem?_eq_none (show rk.length ≤ r by omega)]
theorem rg_some_lt {rk : List (Option Nat)} {r j : Nat} (h : rg rk r = some j) : r < rk.length := by
  by_cases e : r < rk.length
  · exact e
  · rw [rg_out e] at h
    cases h
theorem BrInv.start {W : Wd} {p : Nat} {rooms within had : List Nat} : BrInv W p rooms within had 0 (br0 W.n rooms within) := by
  have key : ∀ r j, rg (br0 W.n rooms within) r = some j → r < W.n ∧ r ∈ rooms ∧ r ∈ within ∧ j = 0 := fun r j h => by
    have hl : r < W.n := by
      have := rg_some_lt h
      simpa [br0] using this
    rw [br0_at hl] at h
    split at h
    · rename_i e
      cases h
      exact ⟨hl, e.1, e.2, rfl⟩
    · cases h
  refine ⟨by simp [br0], fun r hr => ?_, fun r j h => ⟨(key r j h).1, (key r j h).2.2.1⟩, fun r j h => ?_, fun r j h => by rw [(key r j h).2.2.2]; exact Nat.le_refl _⟩
  · rw [br0_at hr]
    split
    · rename_i e
      exact ⟨fun _ => e, fun _ => rfl⟩
    · rename_i e
      exact ⟨fun h => (by cases h), fun h => absurd h e⟩
  · have := (key r _ h).2.2.2
    omega
/-- one number into many places -/
def setAll (rk : List (Option Nat)) (new : List Nat) (v : Nat) : List (Option Nat) := new.foldl (fun l r => l.set r (some v)) rk
theorem setAll_len {v : Nat} : ∀ (new : List Nat) (rk : List (Option Nat)), (setAll rk new v).length = rk.length
  | [], _ => rfl
  | r :: new, rk => by
    show (setAll (rk.set r (some v)) new v).length = _
    rw [setAll_len new, List.length_set]
theorem setAll_at {v r : Nat} : ∀ (new : List Nat) (rk : List (Option Nat)), r < rk.length → rg (setAll rk new v) r = if r ∈ new then some v else rg rk r
  | [], rk, _ => by
    rw [if_neg (by simp)]
    rfl
  | q :: new, rk, h => by
    show rg (setAll (rk.set q (some v)) new v) r = _
    rw [setAll_at new _ (by rw [List.length_set]; exact h)]
    by_cases e : r ∈ new
    · rw [if_pos e, if_pos (List.mem_cons_of_mem _ e)]
    · rw [if_neg e]
      by_cases e2 : q = r
      · subst e2
        rw [if_pos List.mem_cons_self]
        simp [rg, List.getD_eq_getElem?_getD, h]
      · rw [if_neg (by simp [e, Ne.symm e2])]
        simp [rg, List.getD_eq_getElem?_getD, List.getElem?_set_ne e2]
theorem setAll_snoc {v r : Nat} {new : List Nat} {rk : List (Option Nat)} : setAll rk (new ++ [r]) v = (setAll rk new v).set r (some v) := by
  unfold setAll
  rw [List.foldl_append]
  rfl
def brKnown (had : List Nat) (rk : List (Option Nat)) : List Nat := had ++ (List.range rk.length).filter fun r => (rg rk r).isSome
def brNew (W : Wd) (p : Nat) (within known : List Nat) (rk : List (Option Nat)) : List Nat := within.filter fun r => (rg rk r).isNone && canNow W p r (fun t => decide (t ∈ known))
theorem mem_known {had : List Nat} {rk : List (Option Nat)} {t : Nat} : t ∈ brKnown had rk ↔ t ∈ had ∨ ∃ i, rg rk t = some i := by
  unfold brKnown
  rw [List.mem_append, List.mem_filter, List.mem_range, Option.isSome_iff_exists]
  constructor
  · rintro (h | ⟨_, h⟩)
    · exact .inl h
    · exact .inr h
  · rintro (h | ⟨i, h⟩)
    · exact .inl h
    · exact .inr ⟨rg_some_lt h, i, h⟩
theorem mem_brNew {W : Wd} {p : Nat} {within known : List Nat} {rk : List (Option Nat)} {r : Nat} : r ∈ brNew W p within known rk ↔ r ∈ within ∧ rg rk r = none ∧ canNow W p r (fun t => decide (t ∈ known)) = true := by
  unfold brNew
  rw [List.mem_filter, Bool.and_eq_true, Option.isNone_iff_eq_none]
theorem BrInv.next {W : Wd} {p rank : Nat} {rooms within had : List Nat} {rk : List (Option Nat)} (hw : ∀ r ∈ within, r < W.n) (B : BrInv W p rooms within had rank rk) :
    BrInv W p rooms within had (rank + 1) (setAll rk (brNew W p within (brKnown had rk) rk) (rank + 1)) := by
  generalize hnew : brNew W p within (brKnown had rk) rk = new
  have hn : ∀ r ∈ new, r ∈ within ∧ rg rk r = none ∧ canNow W p r (fun t => decide (t ∈ brKnown had rk)) = true := fun r hr => by
    rw [← hnew] at hr
    exact mem_brNew.mp hr
  have hat : ∀ r, r < W.n → rg (setAll rk new (rank + 1)) r = if r ∈ new then some (rank + 1) else rg rk r := fun r hr => setAll_at new rk (by rw [B.len]; exact hr)
  have hlt : ∀ r j, rg (setAll rk new (rank + 1)) r = some j → r < W.n := fun r j h => by
    have := rg_some_lt h
    rw [setAll_len, B.len] at this
    exact this
  have hold : ∀ t i, rg rk t = some i → rg (setAll rk new (rank + 1)) t = some i := fun t i h => by
    rw [hat t (B.sub t i h).1, if_neg fun e => by rw [(hn t e).2.1] at h; cases h]
    exact h
  refine ⟨by rw [setAll_len, B.len], fun r hr => ?_, fun r j h => ?_, fun r j h => ?_, fun r j h => ?_⟩
  · rw [hat r hr, ← B.zero r hr]
    split
    · rename_i e
      rw [(hn r e).2.1]
      constructor
      · intro z
        cases z
      · intro z
        cases z
    · exact Iff.rfl
  · have hr := hlt r j h
    rw [hat r hr] at h
    split at h
    · rename_i e
      exact ⟨hr, (hn r e).1⟩
    · exact B.sub r j h
  · have hr := hlt r _ h
    rw [hat r hr] at h
    split at h
    · rename_i e
      have ej : j = rank := by
        cases h
        rfl
      subst ej
      refine canNow_mono (fun t ht => ?_) (hn r e).2.2
      rw [decide_eq_true_eq, mem_known] at ht
      rw [Bool.or_eq_true, decide_eq_true_eq, below_iff]
      rcases ht with ht | ⟨i, ht⟩
      · exact .inl ht
      · exact .inr ⟨i, hold t i ht, B.max t i ht⟩
    · refine canNow_mono (fun t ht => ?_) (B.pos r j h)
      rw [Bool.or_eq_true, decide_eq_true_eq, below_iff] at ht ⊢
      rcases ht with ht | ⟨i, ht, hi⟩
      · exact .inl ht
      · exact .inr ⟨i, hold t i ht, hi⟩
  · have hr := hlt r j h
    rw [hat r hr] at h
    split at h
    · cases h
      exact Nat.le_refl _
    · have := B.max r j h
      omega
theorem BrInv.stop {W : Wd} {p rank : Nat} {rooms within had : List Nat} {rk : List (Option Nat)} (B : BrInv W p rooms within had rank rk) (e : brNew W p within (brKnown had rk) rk = []) : Brought W p rooms within had rk := by
  refine ⟨B.len, B.zero, B.sub, B.pos, fun r hr hx => ?_⟩
  cases hc : canNow W p r (fun t => decide (t ∈ had) || (rg rk t).isSome) with
  | false => rfl
  | true =>
    have : r ∈ brNew W p within (brKnown had rk) rk := mem_brNew.mpr ⟨hr, hx, canNow_mono (fun t ht => by
      rw [Bool.or_eq_true, decide_eq_true_eq, Option.isSome_iff_exists] at ht
      rw [decide_eq_true_eq, mem_known]
      exact ht) hc⟩
    rw [e] at this
    cases this
def brLeft (n : Nat) (rk : List (Option Nat)) : Nat := ((List.range n).filter fun r => (rg rk r).isNone).length
theorem filter_len_le {α : Type} {p q : α → Bool} {l : List α} (h : ∀ x ∈ l, p x = true → q x = true) : (l.filter p).length ≤ (l.filter q).length := by
  have : l.filter p = (l.filter q).filter p := by
    rw [List.filter_filter]
    refine List.filter_congr fun x hx => ?_
    cases hp : p x with
    | false => rfl
    | true => rw [h x hx hp]; rfl
  rw [this]
  exact List.length_filter_le _ _
theorem filter_len_lt {α : Type} {p q : α → Bool} {l : List α} (h : ∀ x ∈ l, p x = true → q x = true) {x : α} (hx : x ∈ l) (h1 : q x = true) (h2 : p x = false) : (l.filter p).length < (l.filter q).length := by
  have : l.filter p = (l.filter q).filter p := by
    rw [List.filter_filter]
    refine List.filter_congr fun x hx => ?_
    cases hp : p x with
    | false => rfl
    | true => rw [h x hx hp]; rfl
  rw [this, List.length_filter_lt_length_iff_exists]
  exact ⟨x, List.mem_filter.mpr ⟨hx, h1⟩, by rw [h2]; exact Bool.false_ne_true⟩
theorem brLeft_lt {W : Wd} {p v : Nat} {rooms within known had : List Nat} {rk : List (Option Nat)} {rank : Nat} (hw : ∀ r ∈ within, r < W.n) (B : BrInv W p rooms within had rank rk) (h : brNew W p within known rk ≠ []) :
    brLeft W.n (setAll rk (brNew W p within known rk) v) < brLeft W.n rk := by
  obtain ⟨r, hr⟩ := List.exists_mem_of_ne_nil _ h
  obtain ⟨h1, h2, _⟩ := mem_brNew.mp hr
  have hl := hw r h1
  refine filter_len_lt (fun x hx hp => ?_) (List.mem_range.mpr hl) (by rw [h2]; rfl) ?_
  · have hx := List.mem_range.mp hx
    rw [setAll_at _ _ (by rw [B.len]; exact hx)] at hp
    split at hp
    · cases hp
    · exact hp
  · rw [setAll_at _ _ (by rw [B.len]; exact hl), if_pos hr]
    rfl
theorem setAll_nil {rk : List (Option Nat)} {v : Nat} : setAll rk [] v = rk := rfl
/-! ### plans, worlds of plans -/
structure PlanOk (W : Wd) (p : Nat) (plan : List (Option Nat)) : Prop where
  len : plan.length = W.n
  ok : ∀ r t, rg plan r = some t → W.ow r = p ∧ t ∈ W.st r
def Wd.follow (W : Wd) (plan : List (Option Nat)) : Wd := ⟨W.own, W.marks, (List.range W.n).map fun r => match rg plan r with
  | none => W.st r
  | some t => [t]⟩
theorem follow_n {W : Wd} {plan : List (Option Nat)} : (W.follow plan).n = W.n := rfl
theorem follow_ow {W : Wd} {plan : List (Option Nat)} {r : Nat} : (W.follow plan).ow r = W.ow r := rfl
theorem follow_mks {W : Wd} {plan : List (Option Nat)} {r : Nat} : (W.follow plan).mks r = W.mks r := rfl
theorem follow_st {W : Wd} {plan : List (Option Nat)} {r : Nat} (h : r < W.n) : (W.follow plan).st r = match rg plan r with
  | none => W.st r
  | some t => [t] := by
  show ((List.range W.n).map _).getD r [] = _
  rw [List.getD_eq_getElem?_getD, List.getElem?_map, List.getElem?_range h]
  rfl
theorem follow_none {W : Wd} {plan : List (Option Nat)} {r : Nat} (h : r < W.n) (e : rg plan r = none) : (W.follow plan).st r = W.st r := by
  rw [follow_st h, e]
theorem follow_some {W : Wd} {plan : List (Option Nat)} {r t : Nat} (h : r < W.n) (e : rg plan r = some t) : (W.follow plan).st r = [t] := by
  rw [follow_st h, e]
theorem Wd.Ok.follow {W : Wd} {p : Nat} {plan : List (Option Nat)} (h : W.Ok) (P : PlanOk W p plan) : (W.follow plan).Ok := by
  have key : ∀ r, r < W.n → (W.follow plan).st r ≠ [] ∧ Rising ((W.follow plan).st r) ∧ ∀ t ∈ (W.follow plan).st r, t < W.n := fun r hr => by
    cases e : rg plan r with
    | none =>
      rw [follow_none hr e]
      exact ⟨h.ne r hr, h.st r hr⟩
    | some t =>
      rw [follow_some hr e]
      refine ⟨by simp, List.pairwise_singleton _ _, fun x hx => ?_⟩
      rw [List.mem_singleton.mp hx]
      exact (h.st r hr).2 t (P.ok r t e).2
  exact ⟨h.pos, h.le, h.lm, by simp [Wd.follow, Wd.n], h.ow, h.mks, fun r hr => (key r hr).1, fun r hr => (key r hr).2⟩
theorem follow_sub {W : Wd} {p : Nat} {plan : List (Option Nat)} (P : PlanOk W p plan) {r t : Nat} (h : r < W.n) (ht : t ∈ (W.follow plan).st r) : t ∈ W.st r := by
  cases e : rg plan r with
  | none =>
    rw [follow_none h e] at ht
    exact ht
  | some s =>
    rw [follow_some h e] at ht
    rw [List.mem_singleton.mp ht]
    exact (P.ok r s e).2
/-- a fair way in the world of a plan is one in the world -/
theorem FairWay.back {W : Wd} {p : Nat} {plan rooms marks front ring : List Nat} {plan : List (Option Nat)} (P : PlanOk W p plan) (F : FairWay (W.follow plan) rooms marks front ring) : FairWay W rooms marks front ring :=
  ⟨⟨F.ok.ne, F.ok.lt, fun i x y hx hy => follow_sub P (F.ok.lt x (List.mem_of_getElem? hx)) (F.ok.ch i x y hx hy)⟩, F.sub, F.mrk⟩
/-! ### keeping -/
structure KeepRes (W : Wd) (p : Nat) (rooms kept : List Nat) (plan : List (Option Nat)) : Prop where
  rise : Rising kept
  lt : ∀ r ∈ kept, r < W.n
  sub : ∀ r ∈ kept, r ∈ rooms
  pok : PlanOk W p plan
  mine : ∀ r ∈ kept, W.ow r = p → ∃ t, rg plan r = some t ∧ t ∈ W.st r ∧ t ∈ kept
  oth : ∀ r ∈ kept, W.ow r ≠ p → rg plan r = none ∧ ∀ t ∈ W.st r, t ∈ kept
def beyondOf (W : Wd) (rooms : List Nat) : List Nat := (List.range W.n).filter fun r => decide (r ∉ rooms)
def keptOf (rk : List (Option Nat)) : List Nat := (List.range rk.length).filter fun r => (rg rk r).isNone
theorem mem_keptOf {rk : List (Option Nat)} {r : Nat} : r ∈ keptOf rk ↔ r < rk.length ∧ rg rk r = none := by
  unfold keptOf
  rw [List.mem_filter, List.mem_range, Option.isNone_iff_eq_none]
theorem kept_rise {rk : List (Option Nat)} : Rising (keptOf rk) := List.pairwise_lt_range.filter _
theorem kept_sub {W : Wd} {q : Nat} {rooms had : List Nat} {rk : List (Option Nat)} (B : Brought W q (beyondOf W rooms) (List.range W.n) had rk) {r : Nat} (h : r ∈ keptOf rk) : r ∈ rooms := by
  obtain ⟨h1, h2⟩ := mem_keptOf.mp h
  rw [B.len] at h1
  by_cases e : r ∈ rooms
  · exact e
  · have := (B.zero r h1).mpr ⟨List.mem_filter.mpr ⟨List.mem_range.mpr h1, by simpa using e⟩, List.mem_range.mpr h1⟩
    rw [h2] at this
    cases this
theorem kept_steps {W : Wd} {q : Nat} {rooms : List Nat} {rk : List (Option Nat)} (hW : W.Ok) (B : Brought W q rooms (List.range W.n) [] rk) {r : Nat} (h : r ∈ keptOf rk) :
    (W.ow r = q → ∀ t ∈ W.st r, t ∈ keptOf rk) ∧ (W.ow r ≠ q → ∃ t ∈ W.st r, t ∈ keptOf rk) := by
  obtain ⟨h1, h2⟩ := mem_keptOf.mp h
  have h1' := h1
  rw [B.len] at h1'
  have ht := B.top r (List.mem_range.mpr h1') h2
  have kp : ∀ t ∈ W.st r, rg rk t = none → t ∈ keptOf rk := fun t hs e => mem_keptOf.mpr ⟨by rw [B.len]; exact (hW.st r h1').2 t hs, e⟩
  refine ⟨fun e t hs => ?_, fun e => ?_⟩
  · cases hg : rg rk t with
    | none => exact kp t hs hg
    | some j =>
      have := (canNow_mine (f := fun t => decide (t ∈ ([] : List Nat)) || (rg rk t).isSome) e).mpr ⟨t, hs, by rw [hg]; simp⟩
      rw [ht] at this
      cases this
  · by_cases hx : ∃ t ∈ W.st r, rg rk t = none
    · obtain ⟨t, hs, hg⟩ := hx
      exact ⟨t, hs, kp t hs hg⟩
    · have := (canNow_oth (f := fun t => decide (t ∈ ([] : List Nat)) || (rg rk t).isSome) e).mpr fun t hs => by
        cases hg : rg rk t with
        | none => exact absurd ⟨t, hs, hg⟩ hx
        | some j => simp
      rw [ht] at this
      cases this
theorem KeepRes.good {W : Wd} {p : Nat} {rooms kept : List Nat} {plan : List (Option Nat)} (hW : W.Ok) (K : KeepRes W p rooms kept plan) : Good W rooms [] (fun r => r ∈ kept) ∧ Good (W.follow plan) rooms [] (fun r => r ∈ kept) := by
  refine ⟨⟨fun r hr => K.sub r hr, fun r hr => ?_, fun r _ m hm => by cases hm⟩, ⟨fun r hr => K.sub r hr, fun r hr => ?_, fun r _ m hm => by cases hm⟩⟩
  · by_cases e : W.ow r = p
    · obtain ⟨t, _, h1, h2⟩ := K.mine r hr e
      exact ⟨t, h1, h2⟩
    · obtain ⟨t, ht⟩ := List.exists_mem_of_ne_nil _ (hW.ne r (K.lt r hr))
      exact ⟨t, ht, (K.oth r hr e).2 t ht⟩
  · by_cases e : W.ow r = p
    · obtain ⟨t, h0, h1, h2⟩ := K.mine r hr e
      exact ⟨t, by rw [follow_some (K.lt r hr) h0]; simp, h2⟩
    · obtain ⟨t, ht⟩ := List.exists_mem_of_ne_nil _ (hW.ne r (K.lt r hr))
      exact ⟨t, by rw [follow_none (K.lt r hr) (K.oth r hr e).1]; exact ht, (K.oth r hr e).2 t ht⟩
/-! ### again -/
/-- a step down by the ranks, or any from rank 0 -/
def StepTo (rk : List (Option Nat)) (r t : Nat) : Prop := ∃ k j, rg rk r = some k ∧ rg rk t = some j ∧ (k = 0 ∨ j < k)
structure AgainRes (W : Wd) (p : Nat) (rooms : List Nat) (rk plan : List (Option Nat)) : Prop where
  len : rk.length = W.n
  pok : PlanOk W p plan
  zero : ∀ r, rg rk r = some 0 → r ∈ rooms
  mine : ∀ r k, rg rk r = some k → W.ow r = p → ∃ t, rg plan r = some t ∧ StepTo rk r t
  oth : ∀ r k, rg rk r = some k → W.ow r ≠ p → rg plan r = none ∧ ∀ t ∈ W.st r, StepTo rk r t
theorem AgainRes.good {W : Wd} {p m : Nat} {rooms every : List Nat} {rk plan : List (Option Nat)} (hW : W.Ok) (A : AgainRes W p rooms rk plan) (hr : ∀ r ∈ rooms, m ∈ W.mks r) (he : ∀ r, r < W.n → r ∈ every) :
    Good W every [m] (fun r => (rg rk r).isSome = true) ∧ Good (W.follow plan) every [m] (fun r => (rg rk r).isSome = true) := by
  have hlt : ∀ r k, rg rk r = some k → r < W.n := fun r k h => by
    have := rg_some_lt h
    rw [A.len] at this
    exact this
  -- a step, in both worlds
  have stp : ∀ r k, rg rk r = some k → ∃ t, t ∈ W.st r ∧ t ∈ (W.follow plan).st r ∧ StepTo rk r t := fun r k h => by
    by_cases e : W.ow r = p
    · obtain ⟨t, h1, h2⟩ := A.mine r k h e
      exact ⟨t, (A.pok.ok r t h1).2, by rw [follow_some (hlt r k h) h1]; simp, h2⟩
    · obtain ⟨h1, h2⟩ := A.oth r k h e
      obtain ⟨t, ht⟩ := List.exists_mem_of_ne_nil _ (hW.ne r (hlt r k h))
      exact ⟨t, ht, by rw [follow_none (hlt r k h) h1]; exact ht, h2 t ht⟩
  have lead : ∀ (V : Wd), (∀ r, V.mks r = W.mks r) → (∀ r k, rg rk r = some k → ∃ t ∈ V.st r, StepTo rk r t) → ∀ k r, rg rk r = some k → LeadIn V (fun r => (rg rk r).isSome = true) m r := fun V hm hs k => by
    induction k using Nat.strongRecOn with
    | _ k ih =>
      intro r h
      have hsome : (rg rk r).isSome = true := by rw [h]; rfl
      by_cases e : k = 0
      · subst e
        exact .base hsome (by rw [hm]; exact hr r (A.zero r h))
      · obtain ⟨t, ht, k', j, h1, h2, h3⟩ := hs r k h
        rw [h] at h1
        cases h1
        have hj : j < k := by
          rcases h3 with z | z
          · exact absurd z e
          · exact z
        exact .step hsome ht (ih j hj t h2)
  have all : ∀ (V : Wd), (∀ r, V.mks r = W.mks r) → (∀ r k, rg rk r = some k → ∃ t ∈ V.st r, StepTo rk r t) → Good V every [m] (fun r => (rg rk r).isSome = true) := fun V hm hs => by
    refine ⟨fun r h => ?_, fun r h => ?_, fun r h m' hm' => ?_⟩
    · obtain ⟨k, hk⟩ := Option.isSome_iff_exists.mp h
      exact he r (hlt r k hk)
    · obtain ⟨k, hk⟩ := Option.isSome_iff_exists.mp h
      obtain ⟨t, ht, _, j, _, h2, _⟩ := hs r k hk
      exact ⟨t, ht, by show (rg rk t).isSome = true; rw [h2]; rfl⟩
    · rw [List.mem_singleton.mp hm']
      obtain ⟨k, hk⟩ := Option.isSome_iff_exists.mp h
      exact lead V hm hs k r hk
  exact ⟨all W (fun _ => rfl) fun r k h => by
    obtain ⟨t, h1, _, h3⟩ := stp r k h
    exact ⟨t, h1, h3⟩, all (W.follow plan) (fun _ => rfl) fun r k h => by
    obtain ⟨t, _, h2, h3⟩ := stp r k h
    exact ⟨t, h2, h3⟩⟩
abbrev tg (ts : List (Option (Nat × Nat))) (r : Nat) : Option (Nat × Nat) := ts.getD r none
def turnedTo (ts : List (Option (Nat × Nat))) (there room : Nat) : Bool := match tg ts there, tg ts room with
  | some a, some b => if a.1 ≠ b.1 then decide (a.1 < b.1) else (decide (a.2 < b.2) || (decide (b.2 = 0) && decide (a.2 = 0)))
  | _, _ => false
structure AgInv (W : Wd) (p turn : Nat) (left : List Nat) (ts : List (Option (Nat × Nat))) : Prop where
  len : ts.length = W.n
  left : left = (List.range W.n).filter fun r => (tg ts r).isNone
  lt : ∀ r a, tg ts r = some a → r < W.n ∧ a.1 < turn
  ok : ∀ r a, tg ts r = some a → W.ow r ≠ p → ∃ s ∈ W.st r, turnedTo ts s r = true
theorem tg_some_lt {ts : List (Option (Nat × Nat))} {r : Nat} {a : Nat × Nat} (h : tg ts r = some a) : r < ts.length := by
  by_cases e : r < ts.length
  · exact e
  · simp [tg, List.getD_eq_getElem?_getD, List.getElem?_eq_none (show ts.length ≤ r by omega)] at h
theorem AgInv.start {W : Wd} {p : Nat} : AgInv W p 0 (List.range W.n) ((List.range W.n).map fun _ => none) := by
  have h : ∀ r, tg ((List.range W.n).map fun _ => (none : Option (Nat × Nat))) r = none := fun r => by
    simp only [tg, List.getD_eq_getElem?_getD, List.getElem?_map]
    cases (List.range W.n)[r]? <;> rfl
  refine ⟨by simp, ?_, fun r a e => ?_, fun r a e => ?_⟩
  · exact (List.filter_eq_self.mpr fun r _ => by rw [h]; rfl).symm
  · rw [h] at e
    cases e
  · rw [h] at e
    cases e
theorem AgInv.mem {W : Wd} {p turn : Nat} {left : List Nat} {ts : List (Option (Nat × Nat))} (A : AgInv W p turn left ts) {r : Nat} : r ∈ left ↔ r < W.n ∧ tg ts r = none := by
  rw [A.left, List.mem_filter, List.mem_range, Option.isNone_iff_eq_none]
theorem AgInv.rise {W : Wd} {p turn : Nat} {left : List Nat} {ts : List (Option (Nat × Nat))} (A : AgInv W p turn left ts) : Rising left := by
  rw [A.left]
  exact List.pairwise_lt_range.filter _
/-- the turns behind a turn -/
def agSet (turn : Nat) (lost : List (Option Nat)) (left : List Nat) (ts : List (Option (Nat × Nat))) : List (Option (Nat × Nat)) := left.foldl (fun l r => match rg lost r with
  | some k => l.set r (some (turn, k))
  | none => l) ts
theorem agSet_len {turn : Nat} {lost : List (Option Nat)} : ∀ (left : List Nat) (ts : List (Option (Nat × Nat))), (agSet turn lost left ts).length = ts.length
  | [], _ => rfl
  | r :: left, ts => by
    show (agSet turn lost left (match rg lost r with
      | some k => ts.set r (some (turn, k))
      | none => ts)).length = _
    rw [agSet_len left]
    cases rg lost r with
    | none => rfl
    | some k => exact List.length_set
theorem agSet_at {turn r : Nat} {lost : List (Option Nat)} : ∀ (left : List Nat) (ts : List (Option (Nat × Nat))), r < ts.length → tg (agSet turn lost left ts) r = match rg lost r with
    | some k => if r ∈ left then some (turn, k) else tg ts r
    | none => tg ts r
  | [], ts, _ => by
    show tg ts r = _
    cases rg lost r with
    | none => rfl
    | some k =>
      show _ = if r ∈ [] then some (turn, k) else tg ts r
      rw [if_neg (by simp)]
  | q :: left, ts, h => by
    show tg (agSet turn lost left (match rg lost q with
      | some k => ts.set q (some (turn, k))
      | none => ts)) r = _
    cases hq : rg lost q with
    | none =>
      show tg (agSet turn lost left ts) r = _
      rw [agSet_at left ts h]
      cases hr : rg lost r with
      | none => rfl
      | some k =>
        show (if r ∈ left then some (turn, k) else tg ts r) = if r ∈ q :: left then some (turn, k) else tg ts r
        have : r ≠ q := fun e => by
          rw [e, hq] at hr
          cases hr
        by_cases e : r ∈ left
        · rw [if_pos e, if_pos (List.mem_cons_of_mem _ e)]
        · rw [if_neg e, if_neg (by simp [this, e])]
    | some j =>
      show tg (agSet turn lost left (ts.set q (some (turn, j)))) r = _
      rw [agSet_at left _ (by rw [List.length_set]; exact h)]
      by_cases e2 : q = r
      · subst e2
        rw [hq]
        show (if q ∈ left then some (turn, j) else tg (ts.set q (some (turn, j))) q) = if q ∈ q :: left then some (turn, j) else tg ts q
        rw [if_pos (List.mem_cons_self (a := q) (l := left))]
        split
        · rfl
        · simp [tg, List.getD_eq_getElem?_getD, h]
      · have e3 : tg (ts.set q (some (turn, j))) r = tg ts r := by
          simp [tg, List.getD_eq_getElem?_getD, List.getElem?_set_ne e2]
        rw [e3]
        cases hr : rg lost r with
        | none => rfl
        | some k =>
          show (if r ∈ left then some (turn, k) else tg ts r) = if r ∈ q :: left then some (turn, k) else tg ts r
          by_cases e : r ∈ left
          · rw [if_pos e, if_pos (List.mem_cons_of_mem _ e)]
          · rw [if_neg e, if_neg (by simp [Ne.symm e2, e])]
theorem agSet_snoc {turn r : Nat} {lost : List (Option Nat)} {left : List Nat} {ts : List (Option (Nat × Nat))} : agSet turn lost (left ++ [r]) ts = match rg lost r with
    | some k => (agSet turn lost left ts).set r (some (turn, k))
    | none => agSet turn lost left ts := by
  unfold agSet
  rw [List.foldl_append]
  rfl
def freeOf (left : List Nat) (rk : List (Option Nat)) : List Nat := left.filter fun r => (rg rk r).isNone
theorem AgInv.next {W : Wd} {p turn : Nat} {left rooms : List Nat} {ts : List (Option (Nat × Nat))} {rk lost : List (Option Nat)} (hW : W.Ok) (hp : p < 2) (A : AgInv W p turn left ts)
    (B : Brought W p rooms left [] rk) (L : Brought W (1 - p) (freeOf left rk) left (beyondOf W left) lost) :
    AgInv W p (turn + 1) (left.filter fun r => (tg (agSet turn lost left ts) r).isNone) (agSet turn lost left ts) := by
  have hlen : ts.length = W.n := A.len
  have hat : ∀ r, r < W.n → tg (agSet turn lost left ts) r = match rg lost r with
    | some k => if r ∈ left then some (turn, k) else tg ts r
    | none => tg ts r := fun r hr => agSet_at left ts (by rw [hlen]; exact hr)
  have hnew : ∀ r k, rg lost r = some k → tg (agSet turn lost left ts) r = some (turn, k) := fun r k h => by
    obtain ⟨h1, h2⟩ := L.sub r k h
    rw [hat r h1, h]
    show (if r ∈ left then some (turn, k) else tg ts r) = _
    rw [if_pos h2]
  have hold : ∀ r a, tg ts r = some a → tg (agSet turn lost left ts) r = some a := fun r a h => by
    have hr := (A.lt r a h).1
    rw [hat r hr]
    cases hl : rg lost r with
    | none => exact h
    | some k =>
      have := (A.mem.mp (L.sub r k hl).2).2
      rw [h] at this
      cases this
  have hcase : ∀ r a, tg (agSet turn lost left ts) r = some a → tg ts r = some a ∨ ∃ k, rg lost r = some k ∧ a = (turn, k) := fun r a h => by
    have hr : r < W.n := by
      have := tg_some_lt h
      rw [agSet_len, hlen] at this
      exact this
    rw [hat r hr] at h
    cases hl : rg lost r with
    | none =>
      rw [hl] at h
      exact .inl h
    | some k =>
      rw [hl] at h
      have h : (if r ∈ left then some (turn, k) else tg ts r) = some a := h
      rw [if_pos (L.sub r k hl).2] at h
      cases h
      exact .inr ⟨k, rfl, rfl⟩
  refine ⟨by rw [agSet_len, hlen], ?_, fun r a h => ?_, fun r a h hown => ?_⟩
  · rw [A.left, List.filter_filter]
    refine List.filter_congr fun r hr => ?_
    rw [← A.left]
    have hr := List.mem_range.mp hr
    cases h1 : tg ts r with
    | none => simp
    | some a => rw [hold r a h1]; rfl
  · rcases hcase r a h with h1 | ⟨k, h1, h2⟩
    · have := A.lt r a h1
      exact ⟨this.1, Nat.lt_succ_of_lt this.2⟩
    · subst h2
      exact ⟨(L.sub r k h1).1, Nat.lt_succ_self _⟩
  · rcases hcase r a h with h1 | ⟨k, h1, rfl⟩
    · obtain ⟨s, hs, ht⟩ := A.ok r a h1 hown
      refine ⟨s, hs, ?_⟩
      unfold turnedTo at ht ⊢
      cases e : tg ts s with
      | none =>
        rw [e] at ht
        cases ht
      | some b =>
        rw [e, h1] at ht
        rw [hold s b e, h]
        exact ht
    · obtain ⟨hr, hrl⟩ := L.sub r k h1
      have hq : W.ow r = 1 - p := by
        have := hW.ow r hr
        omega
      -- a step to what is gone, or lost by less
      have key : (∃ s ∈ W.st r, s ∉ left) ∨ ∃ s ∈ W.st r, ∃ j, rg lost s = some j ∧ (j < k ∨ k = 0 ∧ j = 0) := by
        cases k with
        | zero =>
          have hz := ((L.zero r hr).mp h1).1
          have hnone : rg rk r = none := by
            have := (List.mem_filter.mp hz).2
            rwa [Option.isNone_iff_eq_none] at this
          have htop := B.top r hrl hnone
          have hx : ∃ s ∈ W.st r, rg rk s = none := by
            by_cases hx : ∃ s ∈ W.st r, rg rk s = none
            · exact hx
            · have := (canNow_oth (f := fun t => decide (t ∈ ([] : List Nat)) || (rg rk t).isSome) hown).mpr fun t hs => by
                cases hg : rg rk t with
                | none => exact absurd ⟨t, hs, hg⟩ hx
                | some j => simp
              rw [htop] at this
              cases this
          obtain ⟨s, hs, hsn⟩ := hx
          by_cases hsl : s ∈ left
          · refine .inr ⟨s, hs, 0, ?_, .inr ⟨rfl, rfl⟩⟩
            exact (L.zero s ((hW.st r hr).2 s hs)).mpr ⟨List.mem_filter.mpr ⟨hsl, by rw [hsn]; rfl⟩, hsl⟩
          · exact .inl ⟨s, hs, hsl⟩
        | succ j =>
          obtain ⟨s, hs, hf⟩ := (canNow_mine hq).mp (L.pos r j h1)
          rw [Bool.or_eq_true, decide_eq_true_eq, below_iff] at hf
          rcases hf with hf | ⟨i, hi, hij⟩
          · have := (List.mem_filter.mp hf).2
            exact .inl ⟨s, hs, by simpa using this⟩
          · exact .inr ⟨s, hs, i, hi, .inl (by omega)⟩
      rcases key with ⟨s, hs, hsl⟩ | ⟨s, hs, j, hj, hjk⟩
      · have hsn : s < W.n := (hW.st r hr).2 s hs
        cases hts : tg ts s with
        | none => exact absurd (A.mem.mpr ⟨hsn, hts⟩) hsl
        | some b =>
          refine ⟨s, hs, ?_⟩
          unfold turnedTo
          rw [hold s b hts, h]
          have hb := (A.lt s b hts).2
          show (if b.1 ≠ turn then decide (b.1 < turn) else _) = true
          rw [if_pos (by omega)]
          exact decide_eq_true hb
      · refine ⟨s, hs, ?_⟩
        unfold turnedTo
        rw [hnew s j hj, h]
        show (if turn ≠ turn then decide (turn < turn) else (decide (j < k) || (decide (k = 0) && decide (j = 0)))) = true
        rw [if_neg (by simp)]
        rcases hjk with h | ⟨h2, h3⟩
        · simp [h]
        · simp [h2, h3]
theorem ag_lt {W : Wd} {p turn : Nat} {left free gone : List Nat} {ts : List (Option (Nat × Nat))} {lost : List (Option Nat)} (A : AgInv W p turn left ts) (L : Brought W (1 - p) free left gone lost) {r k : Nat} (h : rg lost r = some k) :
    (left.filter fun r => (tg (agSet turn lost left ts) r).isNone).length < left.length := by
  obtain ⟨h1, h2⟩ := L.sub r k h
  rw [List.length_filter_lt_length_iff_exists]
  refine ⟨r, h2, ?_⟩
  rw [agSet_at left ts (by rw [A.len]; exact h1), h]
  show ¬ (if r ∈ left then some (turn, k) else tg ts r).isNone = true
  rw [if_pos h2]
  simp
/-- the last turn: nothing more is lost -/
structure AgEnd (W : Wd) (p : Nat) (rooms : List Nat) (rk : List (Option Nat)) : Prop where
  len : rk.length = W.n
  zero : ∀ r, rg rk r = some 0 → r ∈ rooms
  mine : ∀ r k, rg rk r = some k → W.ow r = p → ∃ t ∈ W.st r, StepTo rk r t
  oth : ∀ r k, rg rk r = some k → W.ow r ≠ p → ∀ t ∈ W.st r, StepTo rk r t
theorem ag_end {W : Wd} {p turn : Nat} {left rooms : List Nat} {ts : List (Option (Nat × Nat))} {rk lost : List (Option Nat)} (hW : W.Ok) (hp : p < 2) (A : AgInv W p turn left ts)
    (B : Brought W p rooms left [] rk) (L : Brought W (1 - p) (freeOf left rk) left (beyondOf W left) lost) (hl : ∀ r, rg lost r = none) : AgEnd W p rooms rk := by
  have hall : ∀ r ∈ left, ∃ k, rg rk r = some k := fun r hr => by
    cases e : rg rk r with
    | some k => exact ⟨k, rfl⟩
    | none =>
      have := (L.zero r (A.mem.mp hr).1).mpr ⟨List.mem_filter.mpr ⟨hr, by rw [e]; rfl⟩, hr⟩
      rw [hl r] at this
      cases this
  have htop : ∀ r ∈ left, canNow W (1 - p) r (fun t => decide (t ∈ beyondOf W left) || (rg lost t).isSome) = false := fun r hr => L.top r hr (hl r)
  have hgone : ∀ r t, r < W.n → t ∈ W.st r → t ∉ left → t ∈ beyondOf W left := fun r t hr ht hn => List.mem_filter.mpr ⟨List.mem_range.mpr ((hW.st r hr).2 t ht), by simpa using hn⟩
  refine ⟨B.len, fun r h => ((B.zero r (B.sub r 0 h).1).mp h).1, fun r k h hown => ?_, fun r k h hown t ht => ?_⟩
  · obtain ⟨hr, hrl⟩ := B.sub r k h
    cases k with
    | zero =>
      have hx : ∃ t ∈ W.st r, t ∈ left := by
        by_cases hx : ∃ t ∈ W.st r, t ∈ left
        · exact hx
        · have hq : W.ow r ≠ 1 - p := by omega
          have := (canNow_oth (f := fun t => decide (t ∈ beyondOf W left) || (rg lost t).isSome) hq).mpr fun t ht => by
            rw [Bool.or_eq_true, decide_eq_true_eq]
            exact .inl (hgone r t hr ht fun e => hx ⟨t, ht, e⟩)
          rw [htop r hrl] at this
          cases this
      obtain ⟨t, ht, htl⟩ := hx
      obtain ⟨j, hj⟩ := hall t htl
      exact ⟨t, ht, 0, j, h, hj, .inl rfl⟩
    | succ k =>
      obtain ⟨t, ht, hf⟩ := (canNow_mine hown).mp (B.pos r k h)
      rw [Bool.or_eq_true, decide_eq_true_eq, below_iff] at hf
      rcases hf with hf | ⟨i, hi, hik⟩
      · cases hf
      · exact ⟨t, ht, k + 1, i, h, hi, .inr (by omega)⟩
  · obtain ⟨hr, hrl⟩ := B.sub r k h
    cases k with
    | zero =>
      have hq : W.ow r = 1 - p := by
        have := hW.ow r hr
        omega
      have htl : t ∈ left := by
        by_cases e : t ∈ left
        · exact e
        · have := (canNow_mine (f := fun t => decide (t ∈ beyondOf W left) || (rg lost t).isSome) hq).mpr ⟨t, ht, by
            rw [Bool.or_eq_true, decide_eq_true_eq]
            exact .inl (hgone r t hr ht e)⟩
          rw [htop r hrl] at this
          cases this
      obtain ⟨j, hj⟩ := hall t htl
      exact ⟨0, j, h, hj, .inl rfl⟩
    | succ k =>
      have hf := (canNow_oth hown).mp (B.pos r k h) t ht
      rw [Bool.or_eq_true, decide_eq_true_eq, below_iff] at hf
      rcases hf with hf | ⟨i, hi, hik⟩
      · cases hf
      · exact ⟨k + 1, i, h, hi, .inr (by omega)⟩
end FH
end
namespace FH
open PySem PySem.Spec PyProof.Rows L2 Evl
/-! ### values and what stands in the heap -/
def nv (n : Nat) : V := .int (n : Int)
def sgn (m : Nat) : Str := ⟨#[97 + m]⟩
def sv (m : Nat) : V := .str (sgn m)
def ov : Option Nat → V
  | none => .non
  | some k => nv k
def L1 {α : Type} (e : α → V) (H : Hp) (a : Addr) (xs : List α) : Prop := H a = some (.lst (xs.map e))
def LL (e : Nat → V) (H : Hp) (a : Addr) (xss : List (List Nat)) : Prop := ∃ as : List Addr, H a = some (.lst (as.map V.ref)) ∧ as.length = xss.length ∧
  ∀ (i : Nat) (p : Addr) (xs : List Nat), as[i]? = some p → xss[i]? = some xs → L1 e H p xs
def IsW (H : Hp) (a : Addr) (W : Wd) : Prop := ∃ o m s : Addr, H a = some (.tup [.ref o, .ref m, .ref s]) ∧ L1 nv H o W.own ∧ LL sv H m W.marks ∧ LL nv H s W.steps
section
variable {α : Type} {e : α → V} {H H' : Hp} {a : Addr} {xs : List α}
theorem L1.mono (x : Ex H H') (h : L1 e H a xs) : L1 e H' a xs := x _ _ h
end
theorem LL.mono {e : Nat → V} {H H' : Hp} {a : Addr} {xss : List (List Nat)} (x : Ex H H') (h : LL e H a xss) : LL e H' a xss := by
  obtain ⟨as, h1, h2, h3⟩ := h
  exact ⟨as, x _ _ h1, h2, fun i p xs hi hx => (h3 i p xs hi hx).mono x⟩
theorem IsW.mono {H H' : Hp} {a : Addr} {W : Wd} (x : Ex H H') (h : IsW H a W) : IsW H' a W := by
  obtain ⟨o, m, s, h1, h2, h3, h4⟩ := h
  exact ⟨o, m, s, x _ _ h1, h2.mono x, h3.mono x, h4.mono x⟩
theorem flat_nv (xs : List Nat) : (xs.map nv).all flatV = true := by
  rw [List.all_eq_true]
  intro v hv
  obtain ⟨n, _, rfl⟩ := List.mem_map.mp hv
  rfl
theorem flat_sv (xs : List Nat) : (xs.map sv).all flatV = true := by
  rw [List.all_eq_true]
  intro v hv
  obtain ⟨n, _, rfl⟩ := List.mem_map.mp hv
  rfl
theorem inV_nv (x : Nat) (xs : List Nat) : inV (nv x) (xs.map nv) = decide (x ∈ xs) := by
  unfold inV
  rw [Bool.eq_iff_iff, List.any_eq_true, decide_eq_true_eq]
  constructor
  · rintro ⟨v, hv, h⟩
    obtain ⟨n, hn, rfl⟩ := List.mem_map.mp hv
    have h : ((n : Int) == (x : Int)) = true := h
    have : n = x := by
      have := eq_of_beq h
      omega
    rw [← this]
    exact hn
  · intro h
    exact ⟨nv x, List.mem_map.mpr ⟨x, h, rfl⟩, (by show ((x : Int) == (x : Int)) = true; exact beq_self_eq_true _)⟩
theorem sgn_inj {m k : Nat} (h : sgn m = sgn k) : m = k := by
  have h1 : (#[97 + m] : Array Nat) = #[97 + k] := congrArg Str.cps h
  have h2 := congrArg (fun z : Array Nat => z.toList) h1
  simp at h2
  exact h2
theorem inV_sv (x : Nat) (xs : List Nat) : inV (sv x) (xs.map sv) = decide (x ∈ xs) := by
  unfold inV
  rw [Bool.eq_iff_iff, List.any_eq_true, decide_eq_true_eq]
  constructor
  · rintro ⟨v, hv, h⟩
    obtain ⟨n, hn, rfl⟩ := List.mem_map.mp hv
    have h : (sgn n == sgn x) = true := h
    rw [← sgn_inj (eq_of_beq h)]
    exact hn
  · intro h
    exact ⟨sv x, List.mem_map.mpr ⟨x, h, rfl⟩, (by show (sgn x == sgn x) = true; exact beq_self_eq_true _)⟩
theorem nv_inj {a b : Nat} (h : nv a = nv b) : a = b := by
  have h : V.int (a : Int) = V.int (b : Int) := h
  injection h with h
  omega
theorem nv_eq (a b : Nat) : decide (nv a = nv b) = decide (a = b) := by
  by_cases h : a = b
  · rw [h, decide_eq_true rfl, decide_eq_true rfl]
  · rw [decide_eq_false h, decide_eq_false fun e => h (nv_inj e)]
/-! ### evaluation, the value described -/
def EvP (te : TE) (σ : L2.St) (H : Hp) (Φ : V → Hp → Prop) : Prop := ∀ H1, Ex H H1 → ∀ Q : VK, (∀ v H2, Ex H1 H2 → Φ v H2 → Q v H2) → te σ H1 Q
/-- a new object -/
def EvR (te : TE) (σ : L2.St) (H : Hp) (Φ : Addr → Hp → Prop) : Prop := ∀ H1, Ex H H1 → ∀ Q : VK, (∀ p H2, H1 p = none → Ex H1 H2 → Φ p H2 → Q (.ref p) H2) → te σ H1 Q
def EvAP (ta : TA) (σ : L2.St) (H : Hp) (Φ : List V → Hp → Prop) : Prop := ∀ H1, Ex H H1 → ∀ Q : List V → Hp → Prop, (∀ vs H2, Ex H1 H2 → Φ vs H2 → Q vs H2) → ta σ H1 Q
def Mono {α : Type} (Φ : α → Hp → Prop) : Prop := ∀ v H H', Ex H H' → Φ v H → Φ v H'
section
variable {K : PySem.W.Frag} {σ : L2.St} {H H' : Hp} {ta tb te tl : TE} {t u : TT} {x y z v : V} {D : Ends} {tu tw tz : TS} {Φ Ψ : V → Hp → Prop} {i : Nat}
theorem EvP.mono (e : Ex H H') (h : EvP te σ H Φ) : EvP te σ H' Φ := fun H1 a Q q => h H1 (e.trans a) Q q
theorem EvR.mono {Φ : Addr → Hp → Prop} (e : Ex H H') (h : EvR te σ H Φ) : EvR te σ H' Φ := fun H1 a Q q => h H1 (e.trans a) Q q
theorem EvP.of (h : Ev te σ H v) : EvP te σ H (fun w _ => w = v) := fun H1 a Q q => h H1 a Q fun H2 e => q v H2 e rfl
theorem EvP.imp (h : EvP te σ H Φ) (k : ∀ v H1, Ex H H1 → Φ v H1 → Ψ v H1) : EvP te σ H Ψ := fun H1 a Q q => h H1 a Q fun v H2 e hv => q v H2 e (k v H2 (a.trans e) hv)
theorem EvP.ev (h : EvP te σ H (fun w _ => w = v)) : Ev te σ H v := fun H1 a Q q => h H1 a Q fun w H2 e hw => by
  rw [hw]
  exact q H2 e
theorem EvR.P {Φ : Addr → Hp → Prop} (h : EvR te σ H Φ) : EvP te σ H (fun v H' => ∃ p, v = .ref p ∧ Φ p H') := fun H1 a Q q => h H1 a Q fun p H2 _ e hp => q (.ref p) H2 e ⟨p, rfl, hp⟩
theorem EvR.ofL {xs : List V} (h : EvL te σ H xs) : EvR te σ H (fun p H' => H' p = some (.lst xs)) := h
theorem EvP.ofL {xs : List V} (h : EvL te σ H xs) : EvP te σ H (fun v H' => ∃ p, v = .ref p ∧ H' p = some (.lst xs)) := fun H1 a Q q => h H1 a Q fun p H2 _ e hp => q (.ref p) H2 e ⟨p, rfl, hp⟩
theorem EvP.ofU {xs : List V} (h : EvU te σ H xs) : EvP te σ H (fun v H' => ∃ p, v = .ref p ∧ H' p = some (.tup xs)) := fun H1 a Q q => h H1 a Q fun p H2 _ e hp => q (.ref p) H2 e ⟨p, rfl, hp⟩
/-! arguments -/
theorem eap_nil : EvAP tNil σ H (fun vs _ => vs = []) := fun H1 _ Q q => q [] H1 (Ex.refl H1) rfl
theorem eap_cons {tr : TA} {Ξ : List V → Hp → Prop} (m : Mono Φ) (h : EvP te σ H Φ) (hr : EvAP tr σ H Ξ) : EvAP (tCons te tr) σ H (fun vs H' => ∃ v r, vs = v :: r ∧ Φ v H' ∧ Ξ r H') := fun H1 e Q q =>
  h H1 e _ fun v H2 e2 hv => hr H2 (e.trans e2) _ fun r H3 e3 hr3 => q (v :: r) H3 (e2.trans e3) ⟨v, r, rfl, m v H2 H3 e3 hv, hr3⟩
theorem mono_eq : Mono (fun (w : V) (_ : Hp) => w = v) := fun _ _ _ _ h => h
theorem EvAP.of {ta : TA} {vs : List V} (h : EvA ta σ H vs) : EvAP ta σ H (fun ws _ => ws = vs) := fun H1 e Q q => h H1 e Q fun H2 e2 => q vs H2 e2 rfl
/-- a call: what is known of the arguments is what the promise wants -/
theorem evp_call {sp : Sp} {E : XK} {ta : TA} {Ξ : List V → Hp → Prop} (h : EvAP ta σ H Ξ) (hs : ∀ vs H2, Ex H H2 → Ξ vs H2 → ∀ Q : VK, (∀ v H3, Ex H2 H3 → Φ v H3 → Q v H3) → ∀ E : XK, sp (vs ++ []) H2 Q E) : EvP (tCall sp [] E ta) σ H Φ := fun H1 e Q q =>
  h H1 e _ fun vs H2 e2 hv => hs vs H2 (e.trans e2) hv Q (fun v H3 e3 hf => q v H3 (e2.trans e3) hf) E
/-- the same, the arguments known -/
theorem evp_callA {sp : Sp} {E : XK} {ta : TA} {vs : List V} (h : EvA ta σ H vs) (hs : ∀ H2, Ex H H2 → ∀ Q : VK, (∀ v H3, Ex H2 H3 → Φ v H3 → Q v H3) → ∀ E : XK, sp (vs ++ []) H2 Q E) : EvP (tCall sp [] E ta) σ H Φ := fun H1 e Q q =>
  h H1 e _ fun H2 e2 => hs H2 (e.trans e2) Q (fun v H3 e3 hf => q v H3 (e2.trans e3) hf) E
/-- a tuple made of what is described -/
theorem evp_tup {ta : TA} {Ξ : List V → Hp → Prop} (m : Mono Ξ) (h : EvAP ta σ H Ξ) (hl : ∀ vs H', Ξ vs H' → vs.length ≤ 100000) : EvP (tTup ta) σ H (fun v H' => ∃ p vs, v = .ref p ∧ H' p = some (.tup vs) ∧ Ξ vs H') := fun H1 e Q q =>
  h H1 e _ fun vs H2 e2 hv => ⟨sz_of (hl vs H2 hv), fun p hp => q (.ref p) _ (e2.trans (Ex.new hp)) ⟨p, vs, rfl, upd_same, m vs H2 _ (Ex.new hp) hv⟩⟩
/-! statements -/
theorem q_asgP (h : EvP te σ H Φ) (k : ∀ v H1, Ex H H1 → Φ v H1 → tz D (σ.set i (some v)) H1) : tSeq (tAsg te (gName i)) tz D σ H := h H (Ex.refl H) _ fun v H1 e hv => k v H1 e hv
theorem q_asgR {Φ : Addr → Hp → Prop} (h : EvR te σ H Φ) (k : ∀ p H1, H p = none → Ex H H1 → Φ p H1 → tz D (σ.set i (some (.ref p))) H1) : tSeq (tAsg te (gName i)) tz D σ H := h H (Ex.refl H) _ fun p H1 hp e hv => k p H1 hp e hv
theorem s_asgP (h : EvP te σ H Φ) (k : ∀ v H1, Ex H H1 → Φ v H1 → D.nx (σ.set i (some v)) H1) : tAsg te (gName i) D σ H := h H (Ex.refl H) _ fun v H1 e hv => k v H1 e hv
theorem s_retP (h : EvP te σ H Φ) (k : ∀ v H1, Ex H H1 → Φ v H1 → D.rt v H1) : tRet te D σ H := h H (Ex.refl H) _ k
theorem q_dropP (h : EvP te σ H Φ) (k : ∀ v H1, Ex H H1 → Φ v H1 → tz D σ H1) : tSeq (tDrop te) tz D σ H := h H (Ex.refl H) _ k
theorem s_dropP (h : EvP te σ H Φ) (k : ∀ v H1, Ex H H1 → Φ v H1 → D.nx σ H1) : tDrop te D σ H := h H (Ex.refl H) _ k
/-- a, b = a tuple -/
theorem q_asgT2 {i j : Nat} (h : EvP te σ H (fun v H' => ∃ p x y, v = .ref p ∧ H' p = some (.tup [x, y]) ∧ Φ x H' ∧ Ψ y H')) (k : ∀ x y H1, Ex H H1 → Φ x H1 → Ψ y H1 → tz D ((σ.set i (some x)).set j (some y)) H1) :
    tSeq (tAsg te (gTup K 2 (gCons (gName i) (gCons (gName j) gNil)))) tz D σ H := h H (Ex.refl H) _ fun v H1 e ⟨p, x, y, hv, hp, h1, h2⟩ => ⟨p, [x, y], hv, SqT.of hp, rfl, x, [y], rfl, y, [], rfl, rfl, k x y H1 e h1 h2⟩
theorem q_asgT2' {i j : Nat} {Θ : V → V → Hp → Prop} (h : EvP te σ H (fun v H' => ∃ p x y, v = .ref p ∧ H' p = some (.tup [x, y]) ∧ Θ x y H')) (k : ∀ x y H1, Ex H H1 → Θ x y H1 → tz D ((σ.set i (some x)).set j (some y)) H1) :
    tSeq (tAsg te (gTup K 2 (gCons (gName i) (gCons (gName j) gNil)))) tz D σ H := h H (Ex.refl H) _ fun v H1 e ⟨p, x, y, hv, hp, h1⟩ => ⟨p, [x, y], hv, SqT.of hp, rfl, x, [y], rfl, y, [], rfl, rfl, k x y H1 e h1⟩
/-- a test, then the way that is taken -/
theorem q_ifT {b : Bool} (hb : b = true) (h : EvT t σ H b) (k : ∀ H1, Ex H H1 → tu { D with nx := tz D } σ H1) : tSeq (tIfS t tu tw) tz D σ H := q_if h (fun _ H1 e => k H1 e) fun e => by rw [hb] at e; cases e
theorem q_ifF {b : Bool} (hb : b = false) (h : EvT t σ H b) (k : ∀ H1, Ex H H1 → tz D σ H1) : tSeq (tIfS t tu tNext) tz D σ H := q_when h (fun e => by rw [hb] at e; cases e) fun _ H1 e => k H1 e
theorem s_ifF {b : Bool} (hb : b = false) (h : EvT t σ H b) (k : ∀ H1, Ex H H1 → D.nx σ H1) : tIfS t tu tNext D σ H := s_when h (fun e => by rw [hb] at e; cases e) fun _ H1 e => k H1 e
/-! ### names, ints, lists -/
theorem ev_lt {a b : Nat} (ha : Ev ta σ H (nv a)) (hb : Ev tb σ H (nv b)) : Ev (tOp rLt ta tb) σ H (.bl (decide (a < b))) := ev_is (ev_op ha hb rv_I0) (congrArg V.bl (decide_eq_decide.mpr Int.ofNat_lt))
theorem ev_gt {a b : Nat} (ha : Ev ta σ H (nv a)) (hb : Ev tb σ H (nv b)) : Ev (tOp rGt ta tb) σ H (.bl (decide (b < a))) := ev_is (ev_op ha hb rv_I0) (congrArg V.bl (decide_eq_decide.mpr Int.ofNat_lt))
theorem ev_eqN {a b : Nat} (ha : Ev ta σ H (nv a)) (hb : Ev tb σ H (nv b)) : Ev (tOp rEq ta tb) σ H (.bl (decide (a = b))) := ev_is (ev_op ha hb (rv_eq rfl)) (congrArg V.bl (nv_eq a b))
theorem ev_neN {a b : Nat} (ha : Ev ta σ H (nv a)) (hb : Ev tb σ H (nv b)) : Ev (tOp rNe ta tb) σ H (.bl (decide (a ≠ b))) := ev_is (ev_op ha hb (rv_ne rfl)) (congrArg V.bl (by rw [nv_eq]; exact (decide_not (p := a = b)).symm))
theorem ev_plus {a b : Nat} (ha : Ev ta σ H (nv a)) (hb : Ev tb σ H (nv b)) : Ev (tOp rPlus ta tb) σ H (nv (a + b)) := ev_is (ev_op ha hb rv_I0) (by show V.int _ = V.int _; rw [Int.natCast_add])
theorem ev_isN {x : V} (ha : Ev ta σ H x) : Ev (tOp rIsN ta (tC .non)) σ H (.bl (decide (x = .non))) := ev_op ha ev_c fun H1 _ Q q => ⟨rfl, q H1 (Ex.refl H1)⟩
theorem ev_notN {x : V} (ha : Ev ta σ H x) : Ev (tOp rNotN ta (tC .non)) σ H (.bl (!decide (x = .non))) := ev_op ha ev_c fun H1 _ Q q => ⟨rfl, q H1 (Ex.refl H1)⟩
theorem ov_none (o : Option Nat) : decide (ov o = .non) = o.isNone := by
  cases o with
  | none => exact decide_eq_true rfl
  | some k => exact decide_eq_false fun e => by cases e
theorem ov_some (o : Option Nat) : (!decide (ov o = .non)) = o.isSome := by
  rw [ov_none]
  cases o <;> rfl
theorem ev_isNO {o : Option Nat} (ha : Ev ta σ H (ov o)) : Ev (tOp rIsN ta (tC .non)) σ H (.bl o.isNone) := ev_is (ev_isN ha) (congrArg V.bl (ov_none o))
theorem ev_notNO {o : Option Nat} (ha : Ev ta σ H (ov o)) : Ev (tOp rNotN ta (tC .non)) σ H (.bl o.isSome) := ev_is (ev_notN ha) (congrArg V.bl (ov_some o))
theorem ev_inN {p : Addr} {k : Nat} {xs : List Nat} (ha : Ev ta σ H (nv k)) (hb : Ev tb σ H (.ref p)) (h : L1 nv H p xs) : Ev (tOp (rIn K false) ta tb) σ H (.bl (decide (k ∈ xs))) :=
  ev_is (ev_op ha hb (rv_isL (sq_of h) rfl (flat_nv xs))) (congrArg V.bl (inV_nv k xs))
theorem ev_niN {p : Addr} {k : Nat} {xs : List Nat} (ha : Ev ta σ H (nv k)) (hb : Ev tb σ H (.ref p)) (h : L1 nv H p xs) : Ev (tOp (rIn K true) ta tb) σ H (.bl (decide (k ∉ xs))) :=
  ev_is (ev_op ha hb (rv_niL (sq_of h) rfl (flat_nv xs))) (congrArg V.bl (by rw [inV_nv]; exact (decide_not (p := k ∈ xs)).symm))
theorem ev_inS {p : Addr} {k : Nat} {xs : List Nat} (ha : Ev ta σ H (sv k)) (hb : Ev tb σ H (.ref p)) (h : L1 sv H p xs) : Ev (tOp (rIn K false) ta tb) σ H (.bl (decide (k ∈ xs))) :=
  ev_is (ev_op ha hb (rv_isL (sq_of h) rfl (flat_sv xs))) (congrArg V.bl (inV_sv k xs))
theorem atI_nat' {xs : List V} {j : Nat} {v : V} (h : xs[j]? = some v) : atI xs (j : Int) = some v := atI_nat h
/-- xs[k] -/
theorem ev_ix {p : Addr} {k : Nat} {vs : List V} (ha : Ev ta σ H (.ref p)) (hb : Ev tb σ H (nv k)) (h : H p = some (.lst vs)) (hv : vs[k]? = some v) : Ev (tOp (rIxL K) ta tb) σ H v := ev_op ha hb (rv_ixL (sq_of h) (atI_nat' hv))
theorem ev_tix {p : Addr} {k : Nat} {i : Int} {vs : List V} (ha : Ev ta σ H (.ref p)) (h : H p = some (.tup vs)) (hi : i = (k : Int)) (hv : vs[k]? = some v) : Ev (tOp (rIxT K) ta (tC (.int i))) σ H v := ev_op ha ev_c (rv_ixT (st_of h) (at_of hi hv))
theorem ev_lenL {α : Type} {e : α → V} {p : Addr} {xs : List α} (ha : Ev ta σ H (.ref p)) (h : L1 e H p xs) : Ev (tCB (rLenS K) (tCons ta tNil)) σ H (nv xs.length) := ev_is (ev_len ha (sq_of h)) (by
  show V.int _ = V.int _
  rw [List.length_map])
theorem ev_lenNL {α : Type} {e : α → V} {xs : List α} (ha : EvL ta σ H (xs.map e)) : Ev (tCB (rLenS K) (tCons ta tNil)) σ H (nv xs.length) := ev_is (ev_lenN ha) (by
  show V.int _ = V.int _
  rw [List.length_map])
/-- a list + another -/
theorem el_cat {α : Type} {e : α → V} {p q : Addr} {xs ys : List α} (ha : Ev ta σ H (.ref p)) (hb : Ev tb σ H (.ref q)) (h1 : L1 e H p xs) (h2 : L1 e H q ys) (hz : xs.length + ys.length ≤ 100000) : EvL (tOp rCat ta tb) σ H ((xs ++ ys).map e) := fun H1 e1 Q k =>
  ha H1 e1 _ fun H2 e2 => hb H2 (e1.trans e2) _ fun H3 e3 => ⟨p, q, _, _, rfl, rfl, ((e1.trans e2).trans e3) _ _ h1, ((e1.trans e2).trans e3) _ _ h2, sz_of (by rw [List.length_map, List.length_map]; exact hz), fun r hr =>
    k r _ (fresh_back (e2.trans e3) hr) ((e2.trans e3).trans (Ex.new hr)) (by rw [upd_same, List.map_append])⟩
theorem el_catPP {α : Type} {e : α → V} {xs ys : List α} (ha : EvP ta σ H (fun v H' => ∃ p, v = .ref p ∧ L1 e H' p xs)) (hb : EvP tb σ H (fun v H' => ∃ p, v = .ref p ∧ L1 e H' p ys)) (hz : xs.length + ys.length ≤ 100000) : EvL (tOp rCat ta tb) σ H ((xs ++ ys).map e) := fun H1 e1 Q k =>
  ha H1 e1 _ fun v1 H2 e2 ⟨p, hp, h1⟩ => hb H2 (e1.trans e2) _ fun v2 H3 e3 ⟨q, hq, h2⟩ => ⟨p, q, _, _, hp, hq, e3 _ _ h1, h2, sz_of (by rw [List.length_map, List.length_map]; exact hz), fun r hr =>
    k r _ (fresh_back (e2.trans e3) hr) ((e2.trans e3).trans (Ex.new hr)) (by rw [upd_same, List.map_append])⟩
theorem evp_ref {α : Type} {e : α → V} {p : Addr} {xs : List α} (h : Ev te σ H (.ref p)) (hx : L1 e H p xs) : EvP te σ H (fun v H' => ∃ p, v = .ref p ∧ L1 e H' p xs) := fun H1 a Q q => h H1 a Q fun H2 e2 => q _ H2 e2 ⟨p, rfl, hx.mono (a.trans e2)⟩
theorem evp_new {α : Type} {e : α → V} {xs : List α} (h : EvL te σ H (xs.map e)) : EvP te σ H (fun v H' => ∃ p, v = .ref p ∧ L1 e H' p xs) := EvP.ofL h
/-- list(range(n)) -/
theorem el_listRg {n : Nat} (h : Ev te σ H (nv n)) (hn : n ≤ 10000) : EvL (tLstRg (tRg1 te)) σ H ((List.range n).map nv) := fun H1 e Q q => h H1 e _ fun H2 e2 => ⟨(n : Int), rfl, .of_le (Int.le_refl 0) (by omega) (by omega) (by omega), fun p hp =>
  q p _ (fresh_back e2 hp) (e2.trans (Ex.new hp)) (by
    rw [upd_same]
    unfold rgV
    rw [show ((n : Int) - 0).toNat = n by omega]
    refine congrArg (fun z => some (HO.lst z)) (List.map_congr_left fun i _ => ?_)
    show V.int (0 + (i : Int)) = V.int (i : Int)
    rw [Int.zero_add])⟩
/-! ### comprehensions -/
theorem take_succ' {α : Type} {l : List α} {i : Nat} {x : α} (h : l[i]? = some x) : l.take (i + 1) = l.take i ++ [x] := by
  rw [List.take_add_one, h]
  rfl
/-- a turn that gives a plain value -/
theorem turn_V {α : Type} {g : α → V} {p : α → Bool} {x : α} {done : List α} {H0 : Hp} {Dl : Addr} {σ2 : L2.St} {N : Hp → Prop} (hn : H0 Dl = none) (e : Ex H0 H) (hD : H Dl = some (.lst ((done.filter p).map g))) (hz : done.length ≤ 50000)
    (ht : EvT t σ2 H (p x)) (he : p x = true → Ev te σ2 H (g x)) (k : ∀ H', Ex H0 H' → H' Dl = some (.lst (((done ++ [x]).filter p).map g)) → N H') :
    t σ2 H fun b H3 => if b = true then te σ2 H3 fun y H4 => ∃ acc, H4 Dl = some (.lst acc) ∧ acc.length < sizeLine ∧ N (upd H4 Dl (.lst (acc ++ [y]))) else N H3 := by
  refine ht H (Ex.refl H) _ fun H3 e3 => ?_
  cases hp : p x with
  | false =>
    show N H3
    refine k H3 (e.trans e3) ?_
    have : (done ++ [x]).filter p = done.filter p := by
      rw [List.filter_append]
      simp [hp]
    rw [this]
    exact e3 _ _ hD
  | true =>
    show te σ2 H3 fun y H4 => ∃ acc, H4 Dl = some (.lst acc) ∧ acc.length < sizeLine ∧ N (upd H4 Dl (.lst (acc ++ [y])))
    refine he hp H3 e3 _ fun H4 e4 => ⟨_, e4 _ _ (e3 _ _ hD), sz_lt (by
      rw [List.length_map]
      have := List.length_filter_le p done
      omega), k _ (Ex.mut ((e.trans e3).trans e4) hn) ?_⟩
    have : (done ++ [x]).filter p = done.filter p ++ [x] := by
      rw [List.filter_append]
      simp [hp]
    rw [this, upd_same, List.map_append]
    rfl
/-- over a list, plain values -/
theorem el_filt {α : Type} {e : α → V} {g : α → V} {l : List α} {j : Nat} {vs : List Nat} (p : α → Bool) (h : EvP tl σ H (fun v H' => ∃ a, v = .ref a ∧ L1 e H' a l)) (hz : l.length ≤ 40000) (hw : ∀ x, wipe ((wipe σ vs).set j (some x)) vs = wipe σ vs)
    (ht : ∀ x H1, x ∈ l → Ex H H1 → EvT t ((wipe σ vs).set j (some (e x))) H1 (p x)) (he : ∀ x H1, x ∈ l → p x = true → Ex H H1 → Ev te ((wipe σ vs).set j (some (e x))) H1 (g x)) :
    EvL (tLc (iList K tl) (gName j) t te vs) σ H ((l.filter p).map g) := fun H0 e0 Q q => h H0 e0 _ fun v H1 e1 ⟨a, hv, ha⟩ => ⟨a, hv, ⟨_, sq_of ha⟩, fun Dl hD =>
  lc_list (K := K) (a := a) (xs := l.map e) (fun i H' => H1 Dl = none ∧ Ex H1 H' ∧ H' Dl = some (.lst (((l.take i).filter p).map g))) ⟨hD, Ex.new hD, upd_same⟩ (fun i H' _ pr => sq_of (pr.2.1 _ _ ha)) (fun i v H' hi pr => by
      rw [List.getElem?_map] at hi
      obtain ⟨x, hxi, rfl⟩ := Option.map_eq_some_iff.mp hi
      have hm : x ∈ l := List.mem_of_getElem? hxi
      refine ⟨hw _, turn_V (x := x) pr.1 pr.2.1 pr.2.2 (by rw [List.length_take]; omega) (ht x H' hm ((e0.trans e1).trans pr.2.1)) (fun hp => he x H' hm hp ((e0.trans e1).trans pr.2.1)) fun H2 h1 h2 => ⟨pr.1, h1, ?_⟩⟩
      rw [take_succ' hxi]
      exact h2) (fun H' pr => by
      rw [List.length_map, List.take_of_length_le (Nat.le_refl _)] at pr
      exact q Dl H' (fresh_back e1 pr.1) (e1.trans pr.2.1) pr.2.2)⟩
/-- over a range, plain values -/
theorem el_filtR {g : Nat → V} {n j : Nat} {vs : List Nat} {ta : TA} (p : Nat → Bool) (h : EvA ta σ H [nv n]) (hz : n ≤ 40000) (hw : ∀ x, wipe ((wipe σ vs).set j (some x)) vs = wipe σ vs)
    (ht : ∀ x H1, x < n → Ex H H1 → EvT t ((wipe σ vs).set j (some (nv x))) H1 (p x)) (he : ∀ x H1, x < n → p x = true → Ex H H1 → Ev te ((wipe σ vs).set j (some (nv x))) H1 (g x)) :
    EvL (tLc (iRng1 ta) (gName j) t te vs) σ H (((List.range n).filter p).map g) := fun H0 e0 Q q => h H0 e0 _ fun H1 e1 => ⟨(n : Int), rfl, by omega, by omega, fun Dl hD =>
  lc_range (lo := 0) (n := ((n : Nat) : Int).toNat) (fun i H' => H1 Dl = none ∧ Ex H1 H' ∧ H' Dl = some (.lst (((List.range i).filter p).map g))) ⟨hD, Ex.new hD, upd_same⟩ (fun i H' hi pr => by
      have e0' : V.int ((0 : Int) + (i : Int)) = nv i := congrArg V.int (Int.zero_add _)
      have hi' : i < n := by omega
      rw [e0']
      refine ⟨hw _, turn_V (x := i) pr.1 pr.2.1 pr.2.2 (by rw [List.length_range]; omega) (ht i H' hi' ((e0.trans e1).trans pr.2.1)) (fun hp => he i H' hi' hp ((e0.trans e1).trans pr.2.1)) fun H2 h1 h2 => ⟨pr.1, h1, ?_⟩⟩
      rw [List.range_succ]
      exact h2) (fun H' pr => by
      rw [show ((n : Nat) : Int).toNat = n by omega] at pr
      exact q Dl H' (fresh_back e1 pr.1) (e1.trans pr.2.1) pr.2.2)⟩
/-- an expression that makes a new object, its content described -/
def EvO (te : TE) (σ : L2.St) (H : Hp) (Φ : HO → Prop) : Prop := ∀ H1, Ex H H1 → ∀ Q : VK, (∀ p o H2, H1 p = none → Ex H1 H2 → H2 p = some o → Φ o → Q (.ref p) H2) → te σ H1 Q
theorem EvO.ofL {xs : List V} (h : EvL te σ H xs) : EvO te σ H (fun o => o = .lst xs) := fun H1 e Q q => h H1 e Q fun p H2 hp e2 h2 => q p _ H2 hp e2 h2 rfl
theorem EvO.ofU {xs : List V} (h : EvU te σ H xs) : EvO te σ H (fun o => o = .tup xs) := fun H1 e Q q => h H1 e Q fun p H2 hp e2 h2 => q p _ H2 hp e2 h2 rfl
/-- over a list, new objects, no test -/
theorem er_new {α : Type} {e : α → V} {l : List α} {j : Nat} {vs : List Nat} (Φ : α → HO → Prop) (h : EvP tl σ H (fun v H' => ∃ a, v = .ref a ∧ L1 e H' a l)) (hz : l.length ≤ 40000) (hw : ∀ x, wipe ((wipe σ vs).set j (some x)) vs = wipe σ vs)
    (he : ∀ x H1, x ∈ l → Ex H H1 → EvO te ((wipe σ vs).set j (some (e x))) H1 (Φ x)) :
    EvR (tLc (iList K tl) (gName j) tYes te vs) σ H (fun q H' => ∃ ps : List Addr, H' q = some (.lst (ps.map V.ref)) ∧ ps.length = l.length ∧ ∀ (i : Nat) (x : α) (r : Addr), l[i]? = some x → ps[i]? = some r → r ≠ q ∧ ∃ o, H' r = some o ∧ Φ x o) := fun H0 e0 Q q => h H0 e0 _ fun v H1 e1 ⟨a, hv, ha⟩ => ⟨a, hv, ⟨_, sq_of ha⟩, fun Dl hD =>
  lc_list (K := K) (a := a) (xs := l.map e) (fun i H' => H1 Dl = none ∧ Ex H1 H' ∧ ∃ ps : List Addr, H' Dl = some (.lst (ps.map V.ref)) ∧ ps.length = i ∧ ∀ (i' : Nat) (x : α) (r : Addr), i' < i → l[i']? = some x → ps[i']? = some r → r ≠ Dl ∧ ∃ o, H' r = some o ∧ Φ x o)
    ⟨hD, Ex.new hD, [], upd_same, rfl, fun i' x r hi => absurd hi (Nat.not_lt_zero _)⟩ (fun i H' _ pr => sq_of (pr.2.1 _ _ ha)) (fun i v H' hi pr => by
      obtain ⟨p1, p2, ps, p3, p4, p5⟩ := pr
      rw [List.getElem?_map] at hi
      obtain ⟨x, hxi, rfl⟩ := Option.map_eq_some_iff.mp hi
      have hm : x ∈ l := List.mem_of_getElem? hxi
      have hil : i < l.length := (List.getElem?_eq_some_iff.mp hxi).1
      show _ ∧ te _ H' fun y H4 => ∃ acc, H4 Dl = some (.lst acc) ∧ acc.length < sizeLine ∧ _
      refine ⟨hw _, he x H' hm ((e0.trans e1).trans p2) H' (Ex.refl H') _ fun r o H4 hr e4 ho hf => ⟨ps.map V.ref, e4 _ _ p3, sz_lt (by rw [List.length_map]; omega), p1, Ex.mut (p2.trans e4) p1, ps ++ [r], by rw [upd_same, List.map_append]; rfl, by rw [List.length_append, p4]; rfl, fun i' x' r' hi' hx' hr' => ?_⟩⟩
      by_cases e : i' < i
      · rw [List.getElem?_append_left (by omega)] at hr'
        obtain ⟨h1, o', h2, h3⟩ := p5 i' x' r' e hx' hr'
        exact ⟨h1, o', by rw [upd_ne h1]; exact e4 _ _ h2, h3⟩
      · have ei : i' = i := by omega
        subst ei
        rw [hxi] at hx'
        cases hx'
        rw [List.getElem?_append_right (by omega), p4, Nat.sub_self] at hr'
        cases hr'
        have hne : r ≠ Dl := (ne_of_none p3 hr).symm
        exact ⟨hne, o, by rw [upd_ne hne]; exact ho, hf⟩) (fun H' pr => by
      rw [List.length_map] at pr
      obtain ⟨p1, p2, ps, p3, p4, p5⟩ := pr
      exact q Dl H' (fresh_back e1 p1) (e1.trans p2) ⟨ps, p3, p4, fun i x r hx hr => p5 i x r (List.getElem?_eq_some_iff.mp hx).1 hx hr⟩)⟩
end
end FH
namespace FH
open PySem PySem.Spec PyProof.Rows L2
abbrev s_law_cell_at : Stmt := topS 55
abbrev N_law_cell_at : List Str := ["script", "k"]
theorem sc_law_cell_at : FnScope N_law_cell_at ["script", "k"] (defScope s_law_cell_at) := ⟨rfl, rfl, rfl, by decide +kernel, rfl, by decide +kernel, by decide +kernel⟩
def t_law_cell_at (K : PySem.W.Frag) : TS :=
  (tSeq (tIfS (tTest (tOp rLt (tVar 1) (tCB (Evl.rLenS K) (tCons (tVar 0) tNil)))) (tRet (tOp (rIxL K) (tVar 0) (tVar 1))) tNext)
  (tRet (tC (.int 0))))
theorem der_law_cell_at {P : Program} {w : World} {K : PySem.W.Frag} {mg : Str → Option Value} {base : Heap} (T : Txt K mg) {f : Addr} {cdv : Value} {A : Around} {outer : List Env} {s : Shared} {H : Hp} {E : XK} (hr : Room 0 (A.deeper (envOfC "_law_cell_at" (defScope s_law_cell_at) s.heap.objs.size f cdv))) :
    PSs (cxOf CX0 P w K mg base N_law_cell_at "_law_cell_at" (defScope s_law_cell_at) f cdv A outer s H E).nox (defBody s_law_cell_at) (t_law_cell_at K) := by
  have nd : N_law_cell_at.Nodup := sc_law_cell_at.nd
  exact (pss_cons (ps_if (pt_cmpR op_lt (pv 1) (pe_callB call_len_seq (by rfl) T.len PySem.boot_len (pa_cons (pv 0) pa_nil)) (nomark _)) (pss_one (ps_ret (pe_ix ix_list (pv 0) (pv 1) (fun _ _ => rfl)))) pss_nil)
      (pss_one (ps_ret pe_int)))
abbrev s_law_draw : Stmt := topS 56
abbrev N_law_draw : List Str := ["cell", "k", "bound", "left", "j", "stir"]
theorem sc_law_draw : FnScope N_law_draw ["cell", "k", "bound"] (defScope s_law_draw) := ⟨rfl, rfl, rfl, by decide +kernel, rfl, by decide +kernel, by decide +kernel⟩
def t_law_draw (K : PySem.W.Frag) : TS :=
  (tSeq (tIfS (tTest (tOp rGe (tVar 0) (tOp rPow (tC (.int 10)) (tC (.int 18))))) (tSeq (tAsg (tVar 0) (gName 3))
  (tSeq (tFor (iRng1 (tCons (tVar 1) tNil)) (gName 4) (tAsg (tOp rDiv (tVar 3) (tVar 2)) (gName 3)))
  (tRet (tOp rMod (tVar 3) (tVar 2))))) tNext)
  (tSeq (tAsg (tOp rMod (tOp rTimes (tOp rPlus (tOp rPlus (tOp rMod (tVar 0) (tC (.int 1000000007))) (tOp rTimes (tC (.int 1009)) (tVar 1))) (tC (.int 17))) (tC (.int 69621))) (tC (.int 2147483647))) (gName 5))
  (tSeq (tAsg (tOp rMod (tOp rPlus (tOp rPlus (tOp rTimes (tVar 5) (tVar 5)) (tOp rTimes (tC (.int 40503)) (tVar 1))) (tC (.int 5))) (tC (.int 2147483629))) (gName 5))
  (tRet (tOp rMod (tOp rDiv (tOp rMod (tOp rTimes (tVar 5) (tC (.int 48271))) (tC (.int 2147483647))) (tC (.int 32))) (tVar 2))))))
theorem der_law_draw {P : Program} {w : World} {K : PySem.W.Frag} {mg : Str → Option Value} {base : Heap} (T : Txt K mg) {f : Addr} {cdv : Value} {A : Around} {outer : List Env} {s : Shared} {H : Hp} {E : XK} (hr : Room 0 (A.deeper (envOfC "_law_draw" (defScope s_law_draw) s.heap.objs.size f cdv))) :
    PSs (cxOf CX0 P w K mg base N_law_draw "_law_draw" (defScope s_law_draw) f cdv A outer s H E).nox (defBody s_law_draw) (t_law_draw K) := by
  have nd : N_law_draw.Nodup := sc_law_draw.nd
  exact (pss_cons (ps_if (pt_cmpR op_ge (pv 0) (pe_op op_pow pe_int pe_int) (nomark _)) (pss_cons (ps_set (i := 3) nd rfl (Or.inl rfl) (pv 0))
      (pss_cons (ps_for PassesOwn.never rfl (pi_range1 (by rfl) T.range (pa_cons (pv 1) pa_nil)) (pg_name (i := 4) nd rfl (Or.inl rfl)) (pss_one (ps_set (i := 3) nd rfl (Or.inl rfl) (pe_op op_fdiv (pv 3) (pv 2)))))
      (pss_one (ps_ret (pe_op op_mod (pv 3) (pv 2)))))) pss_nil)
      (pss_cons (ps_set (i := 5) nd rfl (Or.inl rfl) (pe_op op_mod (pe_op op_mul (pe_op op_add (pe_op op_add (pe_op op_mod (pv 0) pe_int) (pe_op op_mul pe_int (pv 1))) pe_int) pe_int) pe_int))
      (pss_cons (ps_set (i := 5) nd rfl (Or.inl rfl) (pe_op op_mod (pe_op op_add (pe_op op_add (pe_op op_mul (pv 5) (pv 5)) (pe_op op_mul pe_int (pv 1))) pe_int) pe_int))
      (pss_one (ps_ret (pe_op op_mod (pe_op op_fdiv (pe_op op_mod (pe_op op_mul (pv 5) pe_int) pe_int) pe_int) (pv 2)))))))
abbrev s_law_world : Stmt := topS 57
abbrev N_law_world : List Str := ["script", "at", "most", "many", "owners", "marks", "steps", "room", "cell", "row", "mark", "there"]
theorem sc_law_world : FnScope N_law_world ["script", "at", "most"] (defScope s_law_world) := ⟨rfl, rfl, rfl, by decide +kernel, rfl, by decide +kernel, by decide +kernel⟩
def t_law_world (K : PySem.W.Frag) (sp_law_cell_at : Sp) (sp_law_draw : Sp) : TS :=
  (tSeq (tAsg (tOp rPlus (tC (.int 1)) (tOp rMod (tCall sp_law_cell_at [] E0 (tCons (tVar 0) (tCons (tVar 1) tNil))) (tVar 2))) (gName 3))
  (tSeq (tAsg (tLst tNil) (gName 4))
  (tSeq (tAsg (tLst tNil) (gName 5))
  (tSeq (tAsg (tLst tNil) (gName 6))
  (tSeq (tFor (iRng1 (tCons (tVar 3) tNil)) (gName 7) (tSeq (tAsg (tCall sp_law_cell_at [] E0 (tCons (tVar 0) (tCons (tOp rPlus (tOp rPlus (tVar 1) (tC (.int 1))) (tVar 7)) tNil))) (gName 8))
  (tSeq (tDrop (tBM K "list" rAppend (tVar 4) (tCons (tCall sp_law_draw [] E0 (tCons (tVar 8) (tCons (tC (.int 0)) (tCons (tC (.int 2)) tNil)))) tNil)))
  (tSeq (tDrop (tBM K "list" rAppend (tVar 5) (tCons (tLc (iStr (tC (.str "abc"))) (gName 10) (tTest (tOp rEq (tCall sp_law_draw [] E0 (tCons (tVar 8) (tCons (tOp rPlus (tC (.int 1)) (tBM K "str" rSIndex (tC (.str "abc")) (tCons (tVar 10) tNil))) (tCons (tC (.int 2)) tNil)))) (tC (.int 1)))) (tVar 10) [10]) tNil)))
  (tSeq (tAsg (tLc (iRng1 (tCons (tVar 3) tNil)) (gName 11) (tTest (tOp rEq (tCall sp_law_draw [] E0 (tCons (tVar 8) (tCons (tOp rPlus (tC (.int 4)) (tVar 11)) (tCons (tOp rPlus (tC (.int 2)) (tCB rInt1 (tCons (tOp rGt (tVar 3) (tC (.int 3))) tNil))) tNil)))) (tC (.int 1)))) (tVar 11) [11]) (gName 9))
  (tSeq (tIfS (tTest (tOp (rEqD K) (tVar 9) (tLst tNil))) (tAsg (tLst (tCons (tCall sp_law_draw [] E0 (tCons (tVar 8) (tCons (tOp rPlus (tC (.int 4)) (tVar 3)) (tCons (tVar 3) tNil)))) tNil)) (gName 9)) tNext)
  (tDrop (tBM K "list" rAppend (tVar 6) (tCons (tVar 9) tNil)))))))))
  (tRet (tTup (tCons (tVar 4) (tCons (tVar 5) (tCons (tVar 6) tNil))))))))))
theorem der_law_world {P : Program} {w : World} {K : PySem.W.Frag} {mg : Str → Option Value} {base : Heap} (T : Txt K mg) {sp_law_cell_at : Sp} (D_law_cell_at : Dk P w K mg base "_law_cell_at" ["script", "k"] 1 sp_law_cell_at) {sp_law_draw : Sp} (D_law_draw : Dk P w K mg base "_law_draw" ["cell", "k", "bound"] 1 sp_law_draw) {f : Addr} {cdv : Value} {A : Around} {outer : List Env} {s : Shared} {H : Hp} {E : XK} (hr : Room 1 (A.deeper (envOfC "_law_world" (defScope s_law_world) s.heap.objs.size f cdv))) :
    PSs (cxOf CX0 P w K mg base N_law_world "_law_world" (defScope s_law_world) f cdv A outer s H E).nox (defBody s_law_world) (t_law_world K sp_law_cell_at sp_law_draw) := by
  have nd : N_law_world.Nodup := sc_law_world.nd
  exact (pss_cons (ps_set (i := 3) nd rfl (Or.inr rfl) (pe_op op_add pe_int (pe_op op_mod (pe_dk D_law_cell_at hr (by rfl) (pa_cons (pv 0) (pa_cons (pv 1) pa_nil))) (pv 2))))
      (pss_cons (ps_set (i := 4) nd rfl (Or.inl rfl) (pe_lst pa_nil))
      (pss_cons (ps_set (i := 5) nd rfl (Or.inl rfl) (pe_lst pa_nil))
      (pss_cons (ps_set (i := 6) nd rfl (Or.inl rfl) (pe_lst pa_nil))
      (pss_cons (ps_for PassesOwn.never rfl (pi_range1 (by rfl) T.range (pa_cons (pv 3) pa_nil)) (pg_name (i := 7) nd rfl (Or.inl rfl)) (pss_cons (ps_set (i := 8) nd rfl (Or.inr rfl) (pe_dk D_law_cell_at hr (by rfl) (pa_cons (pv 0) (pa_cons (pe_op op_add (pe_op op_add (pv 1) pe_int) (pv 7)) pa_nil))))
      (pss_cons (ps_expr (pe_bm PySem.F.plainAttrs_list PySem.F.slot_list_append PySem.F.type_list_append mt_append (pv 4) (pa_cons (pe_dk D_law_draw hr (by rfl) (pa_cons (pv 8) (pa_cons pe_int (pa_cons pe_int pa_nil)))) pa_nil)))
      (pss_cons (ps_expr (pe_bm PySem.F.plainAttrs_list PySem.F.slot_list_append PySem.F.type_list_append mt_append (pv 5) (pa_cons (pe_lc (own := [("mark", 10)]) (g := gName 10) (tt := (tTest (tOp rEq (tCall sp_law_draw [] E0 (tCons (tVar 8) (tCons (tOp rPlus (tC (.int 1)) (tBM K "str" rSIndex (tC (.str "abc")) (tCons (tVar 10) tNil))) (tCons (tC (.int 2)) tNil)))) (tC (.int 1))))) rfl nd (pi_str pe_str) (blkOk_by (own := [("mark", 10)]) (N := N_law_world) (by kernel_rfl)) (fun _ _ _ _ _ => pg_name (i := 10) nd rfl (Or.inl rfl)) (fun _ _ _ _ _ => (pts_one (pt_cmpR op_eq (pe_dk D_law_draw hr (by rfl) (pa_cons (pv 8) (pa_cons (pe_op op_add pe_int (pe_bm PySem.F.plainAttrs_str PySem.F.slot_str_index PySem.F.type_str_index mt_sindex pe_str (pa_cons (pv 10) pa_nil))) (pa_cons pe_int pa_nil)))) pe_int (nomark _)))) (fun _ _ _ _ _ => (pv 10))) pa_nil)))
      (pss_cons (ps_setLc (i := 9) (own := [("there", 11)]) (g := gName 11) (tt := (tTest (tOp rEq (tCall sp_law_draw [] E0 (tCons (tVar 8) (tCons (tOp rPlus (tC (.int 4)) (tVar 11)) (tCons (tOp rPlus (tC (.int 2)) (tCB rInt1 (tCons (tOp rGt (tVar 3) (tC (.int 3))) tNil))) tNil)))) (tC (.int 1))))) rfl nd rfl rfl (sw_true rfl rfl rfl (by decide +kernel)) (pi_range1 (by rfl) T.range (pa_cons (pv 3) pa_nil)) (blkOk_by (own := [("there", 11)]) (N := N_law_world) (by kernel_rfl)) (fun _ _ _ _ _ => pg_name (i := 11) nd rfl (Or.inl rfl)) (fun _ _ _ _ _ => (pts_one (pt_cmpR op_eq (pe_dk D_law_draw hr (by rfl) (pa_cons (pv 8) (pa_cons (pe_op op_add pe_int (pv 11)) (pa_cons (pe_op op_add pe_int (pe_callTy call_int1 (by rfl) T.int (by decide +kernel) (pa_cons (pe_cmpR op_gt (pv 3) pe_int (nomark _)) pa_nil))) pa_nil)))) pe_int (nomark _)))) (fun _ _ _ _ _ => (pv 11)))
      (pss_cons (ps_if (pt_cmpR (op_eqD hr.units) (pv 9) (pe_lst pa_nil) (nomark _)) (pss_one (ps_set (i := 9) nd rfl (Or.inl rfl) (pe_lst (pa_cons (pe_dk D_law_draw hr (by rfl) (pa_cons (pv 8) (pa_cons (pe_op op_add pe_int (pv 3)) (pa_cons (pv 3) pa_nil)))) pa_nil)))) pss_nil)
      (pss_one (ps_expr (pe_bm PySem.F.plainAttrs_list PySem.F.slot_list_append PySem.F.type_list_append mt_append (pv 6) (pa_cons (pv 9) pa_nil))))))))))
      (pss_one (ps_ret (pe_tup (pa_cons (pv 4) (pa_cons (pv 5) (pa_cons (pv 6) pa_nil)))))))))))
abbrev s_law_rooms : Stmt := topS 58
abbrev N_law_rooms : List Str := ["cell", "many", "room"]
theorem sc_law_rooms : FnScope N_law_rooms ["cell", "many"] (defScope s_law_rooms) := ⟨rfl, rfl, rfl, by decide +kernel, rfl, by decide +kernel, by decide +kernel⟩
def t_law_rooms (K : PySem.W.Frag) (sp_law_draw : Sp) : TS :=
  (tRet (tLc (iRng1 (tCons (tVar 1) tNil)) (gName 2) (tTest (tOp rGt (tCall sp_law_draw [] E0 (tCons (tVar 0) (tCons (tVar 2) (tCons (tC (.int 3)) tNil)))) (tC (.int 0)))) (tVar 2) [2]))
theorem der_law_rooms {P : Program} {w : World} {K : PySem.W.Frag} {mg : Str → Option Value} {base : Heap} (T : Txt K mg) {sp_law_draw : Sp} (D_law_draw : Dk P w K mg base "_law_draw" ["cell", "k", "bound"] 1 sp_law_draw) {f : Addr} {cdv : Value} {A : Around} {outer : List Env} {s : Shared} {H : Hp} {E : XK} (hr : Room 1 (A.deeper (envOfC "_law_rooms" (defScope s_law_rooms) s.heap.objs.size f cdv))) :
    PSs (cxOf CX0 P w K mg base N_law_rooms "_law_rooms" (defScope s_law_rooms) f cdv A outer s H E).nox (defBody s_law_rooms) (t_law_rooms K sp_law_draw) := by
  have nd : N_law_rooms.Nodup := sc_law_rooms.nd
  exact (pss_one (ps_ret (pe_lc (own := [("room", 2)]) (g := gName 2) (tt := (tTest (tOp rGt (tCall sp_law_draw [] E0 (tCons (tVar 0) (tCons (tVar 2) (tCons (tC (.int 3)) tNil)))) (tC (.int 0))))) rfl nd (pi_range1 (by rfl) T.range (pa_cons (pv 1) pa_nil)) (blkOk_by (own := [("room", 2)]) (N := N_law_rooms) (by kernel_rfl)) (fun _ _ _ _ _ => pg_name (i := 2) nd rfl (Or.inl rfl)) (fun _ _ _ _ _ => (pts_one (pt_cmpR op_gt (pe_dk D_law_draw hr (by rfl) (pa_cons (pv 0) (pa_cons (pv 2) (pa_cons pe_int pa_nil)))) pe_int (nomark _)))) (fun _ _ _ _ _ => (pv 2)))))
abbrev s_rises : Stmt := topS 11
abbrev N_rises : List Str := ["some", "k"]
theorem sc_rises : FnScope N_rises ["some"] (defScope s_rises) := ⟨rfl, rfl, rfl, by decide +kernel, rfl, by decide +kernel, by decide +kernel⟩
def t_risesI (K : PySem.W.Frag) : TS :=
  (tSeq (tFor (iRng2 (tCons (tC (.int 1)) (tCons (tCB (Evl.rLenS K) (tCons (tVar 0) tNil)) tNil))) (gName 1) (tIfS (tTest (tOp rGe (tOp (rIxL K) (tVar 0) (tOp rMinus (tVar 1) (tC (.int 1)))) (tOp (rIxL K) (tVar 0) (tVar 1)))) (tRet (tC (.bl false))) tNext))
  (tRet (tC (.bl true))))
theorem der_risesI {P : Program} {w : World} {K : PySem.W.Frag} {mg : Str → Option Value} {base : Heap} (T : Txt K mg) {f : Addr} {cdv : Value} {A : Around} {outer : List Env} {s : Shared} {H : Hp} {E : XK} (hr : Room 0 (A.deeper (envOfC "rises" (defScope s_rises) s.heap.objs.size f cdv))) :
    PSs (cxOf CX0 P w K mg base N_rises "rises" (defScope s_rises) f cdv A outer s H E).nox (defBody s_rises) (t_risesI K) := by
  have nd : N_rises.Nodup := sc_rises.nd
  exact (pss_cons (ps_for PassesOwn.never rfl (pi_range2 (by rfl) T.range (pa_cons pe_int (pa_cons (pe_callB call_len_seq (by rfl) T.len PySem.boot_len (pa_cons (pv 0) pa_nil)) pa_nil))) (pg_name (i := 1) nd rfl (Or.inl rfl)) (pss_one (ps_if (pt_cmpR op_ge (pe_ix ix_list (pv 0) (pe_op op_sub (pv 1) pe_int) (fun _ _ => rfl)) (pe_ix ix_list (pv 0) (pv 1) (fun _ _ => rfl)) (nomark _)) (pss_one (ps_ret pe_bl)) pss_nil)))
      (pss_one (ps_ret pe_bl)))
def t_risesS (K : PySem.W.Frag) : TS :=
  (tSeq (tFor (iRng2 (tCons (tC (.int 1)) (tCons (tCB (Evl.rLenS K) (tCons (tVar 0) tNil)) tNil))) (gName 1) (tIfS (tTest (tOp rGeS (tOp (rIxL K) (tVar 0) (tOp rMinus (tVar 1) (tC (.int 1)))) (tOp (rIxL K) (tVar 0) (tVar 1)))) (tRet (tC (.bl false))) tNext))
  (tRet (tC (.bl true))))
theorem der_risesS {P : Program} {w : World} {K : PySem.W.Frag} {mg : Str → Option Value} {base : Heap} (T : Txt K mg) {f : Addr} {cdv : Value} {A : Around} {outer : List Env} {s : Shared} {H : Hp} {E : XK} (hr : Room 0 (A.deeper (envOfC "rises" (defScope s_rises) s.heap.objs.size f cdv))) :
    PSs (cxOf CX0 P w K mg base N_rises "rises" (defScope s_rises) f cdv A outer s H E).nox (defBody s_rises) (t_risesS K) := by
  have nd : N_rises.Nodup := sc_rises.nd
  exact (pss_cons (ps_for PassesOwn.never rfl (pi_range2 (by rfl) T.range (pa_cons pe_int (pa_cons (pe_callB call_len_seq (by rfl) T.len PySem.boot_len (pa_cons (pv 0) pa_nil)) pa_nil))) (pg_name (i := 1) nd rfl (Or.inl rfl)) (pss_one (ps_if (pt_cmpR op_ge_str (pe_ix ix_list (pv 0) (pe_op op_sub (pv 1) pe_int) (fun _ _ => rfl)) (pe_ix ix_list (pv 0) (pv 1) (fun _ _ => rfl)) (nomark _)) (pss_one (ps_ret pe_bl)) pss_nil)))
      (pss_one (ps_ret pe_bl)))
abbrev s_are_marks : Stmt := topS 12
abbrev N_are_marks : List Str := ["marks", "mark"]
theorem sc_are_marks : FnScope N_are_marks ["marks"] (defScope s_are_marks) := ⟨rfl, rfl, rfl, by decide +kernel, rfl, by decide +kernel, by decide +kernel⟩
def t_are_marks (K : PySem.W.Frag) (sp_rises : Sp) : TS :=
  (tRet (tAndV (tCB (rAll K) (tCons (tLc (iList K (tVar 0)) (gName 1) tYes (tAndV (tOp rEq (tCB rLenStr (tCons (tVar 1) tNil)) (tC (.int 1))) (tOp rInSign (tVar 1) (tC (.str "abcdef")))) [1]) tNil)) (tCall sp_rises [] E0 (tCons (tVar 0) tNil))))
theorem der_are_marks {P : Program} {w : World} {K : PySem.W.Frag} {mg : Str → Option Value} {base : Heap} (T : Txt K mg) {sp_rises : Sp} (D_rises : Dk P w K mg base "rises" ["some"] 1 sp_rises) {f : Addr} {cdv : Value} {A : Around} {outer : List Env} {s : Shared} {H : Hp} {E : XK} (hr : Room 1 (A.deeper (envOfC "are_marks" (defScope s_are_marks) s.heap.objs.size f cdv))) :
    PSs (cxOf CX0 P w K mg base N_are_marks "are_marks" (defScope s_are_marks) f cdv A outer s H E).nox (defBody s_are_marks) (t_are_marks K sp_rises) := by
  have nd : N_are_marks.Nodup := sc_are_marks.nd
  exact (pss_one (ps_ret (pe_and (pe_callB (cr_all rfl) (by rfl) T.all (by decide +kernel) (pa_cons (pe_lc (own := [("mark", 1)]) (g := gName 1) (tt := tYes) rfl nd (pi_list (pv 0)) (blkOk_by (own := [("mark", 1)]) (N := N_are_marks) (by kernel_rfl)) (fun _ _ _ _ _ => pg_name (i := 1) nd rfl (Or.inl rfl)) (fun _ _ _ _ _ => pts_nil) (fun _ _ _ _ _ => (pe_and (pe_cmpR op_eq (pe_callB call_len_str (by rfl) T.len PySem.boot_len (pa_cons (pv 1) pa_nil)) pe_int (nomark _)) (pe_one (pe_cmpR op_in_sign (pv 1) (pe_gS (by rfl) T.letters) (by rfl)))))) pa_nil)) (pe_one (pe_dk D_rises hr (by rfl) (pa_cons (pv 0) pa_nil))))))
abbrev s_are_rooms : Stmt := topS 13
abbrev N_are_rooms : List Str := ["rooms", "many", "room"]
theorem sc_are_rooms : FnScope N_are_rooms ["rooms", "many"] (defScope s_are_rooms) := ⟨rfl, rfl, rfl, by decide +kernel, rfl, by decide +kernel, by decide +kernel⟩
def t_are_rooms (K : PySem.W.Frag) (sp_rises : Sp) : TS :=
  (tRet (tAndV (tCB (rAll K) (tCons (tLc (iList K (tVar 0)) (gName 2) tYes (tChain rLe rLt (tC (.int 0)) (tVar 2) (tVar 1)) [2]) tNil)) (tCall sp_rises [] E0 (tCons (tVar 0) tNil))))
theorem der_are_rooms {P : Program} {w : World} {K : PySem.W.Frag} {mg : Str → Option Value} {base : Heap} (T : Txt K mg) {sp_rises : Sp} (D_rises : Dk P w K mg base "rises" ["some"] 1 sp_rises) {f : Addr} {cdv : Value} {A : Around} {outer : List Env} {s : Shared} {H : Hp} {E : XK} (hr : Room 1 (A.deeper (envOfC "are_rooms" (defScope s_are_rooms) s.heap.objs.size f cdv))) :
    PSs (cxOf CX0 P w K mg base N_are_rooms "are_rooms" (defScope s_are_rooms) f cdv A outer s H E).nox (defBody s_are_rooms) (t_are_rooms K sp_rises) := by
  have nd : N_are_rooms.Nodup := sc_are_rooms.nd
  exact (pss_one (ps_ret (pe_and (pe_callB (cr_all rfl) (by rfl) T.all (by decide +kernel) (pa_cons (pe_lc (own := [("room", 2)]) (g := gName 2) (tt := tYes) rfl nd (pi_list (pv 0)) (blkOk_by (own := [("room", 2)]) (N := N_are_rooms) (by kernel_rfl)) (fun _ _ _ _ _ => pg_name (i := 2) nd rfl (Or.inl rfl)) (fun _ _ _ _ _ => pts_nil) (fun _ _ _ _ _ => (pe_chain op_le op_lt pe_int (pv 2) (pv 1)))) pa_nil)) (pe_one (pe_dk D_rises hr (by rfl) (pa_cons (pv 0) pa_nil))))))
abbrev s_is_world : Stmt := topS 14
abbrev N_is_world : List Str := ["owners", "marks", "steps", "many", "room"]
theorem sc_is_world : FnScope N_is_world ["owners", "marks", "steps"] (defScope s_is_world) := ⟨rfl, rfl, rfl, by decide +kernel, rfl, by decide +kernel, by decide +kernel⟩
def t_is_world (K : PySem.W.Frag) (sp_are_marks : Sp) (sp_are_rooms : Sp) : TS :=
  (tSeq (tAsg (tCB (Evl.rLenS K) (tCons (tVar 0) tNil)) (gName 3))
  (tSeq (tIfS (tOr (tNot (tTest (tChain rLe rLe (tC (.int 1)) (tVar 3) (tC (.int 24))))) (tOr (tTest (tOp rNe (tCB (Evl.rLenS K) (tCons (tVar 1) tNil)) (tVar 3))) (tTest (tOp rNe (tCB (Evl.rLenS K) (tCons (tVar 2) tNil)) (tVar 3))))) (tRet (tC (.bl false))) tNext)
  (tSeq (tFor (iRng1 (tCons (tVar 3) tNil)) (gName 4) (tSeq (tIfS (tOr (tTest (tOp (rIn K true) (tOp (rIxL K) (tVar 0) (tVar 4)) (tTup (tCons (tC (.int 0)) (tCons (tC (.int 1)) tNil))))) (tNot (tB (tCall sp_are_marks [] E0 (tCons (tOp (rIxL K) (tVar 1) (tVar 4)) tNil))))) (tRet (tC (.bl false))) tNext)
  (tIfS (tOr (tTest (tOp rEq (tCB (Evl.rLenS K) (tCons (tOp (rIxL K) (tVar 2) (tVar 4)) tNil)) (tC (.int 0)))) (tNot (tB (tCall sp_are_rooms [] E0 (tCons (tOp (rIxL K) (tVar 2) (tVar 4)) (tCons (tVar 3) tNil)))))) (tRet (tC (.bl false))) tNext)))
  (tRet (tC (.bl true))))))
theorem der_is_world {P : Program} {w : World} {K : PySem.W.Frag} {mg : Str → Option Value} {base : Heap} (T : Txt K mg) {sp_are_marks : Sp} (D_are_marks : Dk P w K mg base "are_marks" ["marks"] 2 sp_are_marks) {sp_are_rooms : Sp} (D_are_rooms : Dk P w K mg base "are_rooms" ["rooms", "many"] 2 sp_are_rooms) {f : Addr} {cdv : Value} {A : Around} {outer : List Env} {s : Shared} {H : Hp} {E : XK} (hr : Room 2 (A.deeper (envOfC "is_world" (defScope s_is_world) s.heap.objs.size f cdv))) :
    PSs (cxOf CX0 P w K mg base N_is_world "is_world" (defScope s_is_world) f cdv A outer s H E).nox (defBody s_is_world) (t_is_world K sp_are_marks sp_are_rooms) := by
  have nd : N_is_world.Nodup := sc_is_world.nd
  exact (pss_cons (ps_set (i := 3) nd rfl (Or.inl rfl) (pe_callB call_len_seq (by rfl) T.len PySem.boot_len (pa_cons (pv 0) pa_nil)))
      (pss_cons (ps_if (PW.pt (pw_or (pt_not (pt_chain op_le op_le pe_int (pv 3) (pe_gI (by rfl) T.most))) (pw_or (pt_cmpR op_ne (pe_callB call_len_seq (by rfl) T.len PySem.boot_len (pa_cons (pv 1) pa_nil)) (pv 3) (nomark _)) (pw_or1 (pt_cmpR op_ne (pe_callB call_len_seq (by rfl) T.len PySem.boot_len (pa_cons (pv 2) pa_nil)) (pv 3) (nomark _)))))) (pss_one (ps_ret pe_bl)) pss_nil)
      (pss_cons (ps_for PassesOwn.never rfl (pi_range1 (by rfl) T.range (pa_cons (pv 3) pa_nil)) (pg_name (i := 4) nd rfl (Or.inl rfl)) (pss_cons (ps_if (PW.pt (pw_or (pt_cmpR op_notIn_seq (pe_ix ix_list (pv 0) (pv 4) (fun _ _ => rfl)) (pe_tup (pa_cons pe_int (pa_cons pe_int pa_nil))) (by rfl)) (pw_or1 (pt_not (pt_val (pe_dk D_are_marks hr (by rfl) (pa_cons (pe_ix ix_list (pv 1) (pv 4) (fun _ _ => rfl)) pa_nil))))))) (pss_one (ps_ret pe_bl)) pss_nil)
      (pss_one (ps_if (PW.pt (pw_or (pt_cmpR op_eq (pe_callB call_len_seq (by rfl) T.len PySem.boot_len (pa_cons (pe_ix ix_list (pv 2) (pv 4) (fun _ _ => rfl)) pa_nil)) pe_int (nomark _)) (pw_or1 (pt_not (pt_val (pe_dk D_are_rooms hr (by rfl) (pa_cons (pe_ix ix_list (pv 2) (pv 4) (fun _ _ => rfl)) (pa_cons (pv 3) pa_nil)))))))) (pss_one (ps_ret pe_bl)) pss_nil))))
      (pss_one (ps_ret pe_bl)))))
abbrev s_ask_world : Stmt := topS 15
abbrev N_ask_world : List Str := ["world"]
theorem sc_ask_world : FnScope N_ask_world ["world"] (defScope s_ask_world) := ⟨rfl, rfl, rfl, by decide +kernel, rfl, by decide +kernel, by decide +kernel⟩
def t_ask_world (K : PySem.W.Frag) (sp_is_world : Sp) : TS :=
  (tIfS (tNot (tB (tCall sp_is_world [] E0 (tCons (tOp (rIxT K) (tVar 0) (tC (.int 0))) (tCons (tOp (rIxT K) (tVar 0) (tC (.int 1))) (tCons (tOp (rIxT K) (tVar 0) (tC (.int 2))) tNil)))))) tNever tNext)
theorem der_ask_world {P : Program} {w : World} {K : PySem.W.Frag} {mg : Str → Option Value} {base : Heap} (T : Txt K mg) {sp_is_world : Sp} (D_is_world : Dk P w K mg base "is_world" ["owners", "marks", "steps"] 3 sp_is_world) {f : Addr} {cdv : Value} {A : Around} {outer : List Env} {s : Shared} {H : Hp} {E : XK} (hr : Room 3 (A.deeper (envOfC "ask_world" (defScope s_ask_world) s.heap.objs.size f cdv))) :
    PSs (cxOf CX0 P w K mg base N_ask_world "ask_world" (defScope s_ask_world) f cdv A outer s H E).nox (defBody s_ask_world) (t_ask_world K sp_is_world) := by
  have nd : N_ask_world.Nodup := sc_ask_world.nd
  exact (pss_one (ps_if (pt_not (pt_val (pe_dk D_is_world hr (by rfl) (pa_cons (pe_ix ix_tup (pv 0) pe_int (fun _ _ => rfl)) (pa_cons (pe_ix ix_tup (pv 0) pe_int (fun _ _ => rfl)) (pa_cons (pe_ix ix_tup (pv 0) pe_int (fun _ _ => rfl)) pa_nil)))))) (pss_one ps_never) pss_nil))
abbrev s_ask_player : Stmt := topS 18
abbrev N_ask_player : List Str := ["player"]
theorem sc_ask_player : FnScope N_ask_player ["player"] (defScope s_ask_player) := ⟨rfl, rfl, rfl, by decide +kernel, rfl, by decide +kernel, by decide +kernel⟩
def t_ask_player (K : PySem.W.Frag) : TS :=
  (tIfS (tTest (tOp (rIn K true) (tVar 0) (tTup (tCons (tC (.int 0)) (tCons (tC (.int 1)) tNil))))) tNever tNext)
theorem der_ask_player {P : Program} {w : World} {K : PySem.W.Frag} {mg : Str → Option Value} {base : Heap} (T : Txt K mg) {f : Addr} {cdv : Value} {A : Around} {outer : List Env} {s : Shared} {H : Hp} {E : XK} (hr : Room 0 (A.deeper (envOfC "ask_player" (defScope s_ask_player) s.heap.objs.size f cdv))) :
    PSs (cxOf CX0 P w K mg base N_ask_player "ask_player" (defScope s_ask_player) f cdv A outer s H E).nox (defBody s_ask_player) (t_ask_player K) := by
  have nd : N_ask_player.Nodup := sc_ask_player.nd
  exact (pss_one (ps_if (pt_cmpR op_notIn_seq (pv 0) (pe_tup (pa_cons pe_int (pa_cons pe_int pa_nil))) (by rfl)) (pss_one ps_never) pss_nil))
abbrev s_is_plan : Stmt := topS 31
abbrev N_is_plan : List Str := ["world", "player", "plan", "room"]
theorem sc_is_plan : FnScope N_is_plan ["world", "player", "plan"] (defScope s_is_plan) := ⟨rfl, rfl, rfl, by decide +kernel, rfl, by decide +kernel, by decide +kernel⟩
def t_is_plan (K : PySem.W.Frag) (sp_ask_world : Sp) (sp_ask_player : Sp) : TS :=
  (tSeq (tDrop (tCall sp_ask_world [] E0 (tCons (tVar 0) tNil)))
  (tSeq (tDrop (tCall sp_ask_player [] E0 (tCons (tVar 1) tNil)))
  (tSeq (tIfS (tTest (tOp rNe (tCB (Evl.rLenS K) (tCons (tVar 2) tNil)) (tCB (Evl.rLenS K) (tCons (tOp (rIxT K) (tVar 0) (tC (.int 0))) tNil)))) (tRet (tC (.bl false))) tNext)
  (tSeq (tFor (iRng1 (tCons (tCB (Evl.rLenS K) (tCons (tVar 2) tNil)) tNil)) (gName 3) (tIfS (tAnd (tTest (tOp rNotN (tOp (rIxL K) (tVar 2) (tVar 3)) (tC .non))) (tOr (tTest (tOp rNe (tOp (rIxL K) (tOp (rIxT K) (tVar 0) (tC (.int 0))) (tVar 3)) (tVar 1))) (tTest (tOp (rIn K true) (tOp (rIxL K) (tVar 2) (tVar 3)) (tOp (rIxL K) (tOp (rIxT K) (tVar 0) (tC (.int 2))) (tVar 3)))))) (tRet (tC (.bl false))) tNext))
  (tRet (tC (.bl true)))))))
theorem der_is_plan {P : Program} {w : World} {K : PySem.W.Frag} {mg : Str → Option Value} {base : Heap} (T : Txt K mg) {sp_ask_world : Sp} (D_ask_world : Dk P w K mg base "ask_world" ["world"] 4 sp_ask_world) {sp_ask_player : Sp} (D_ask_player : Dk P w K mg base "ask_player" ["player"] 1 sp_ask_player) {f : Addr} {cdv : Value} {A : Around} {outer : List Env} {s : Shared} {H : Hp} {E : XK} (hr : Room 4 (A.deeper (envOfC "is_plan" (defScope s_is_plan) s.heap.objs.size f cdv))) :
    PSs (cxOf CX0 P w K mg base N_is_plan "is_plan" (defScope s_is_plan) f cdv A outer s H E).nox (defBody s_is_plan) (t_is_plan K sp_ask_world sp_ask_player) := by
  have nd : N_is_plan.Nodup := sc_is_plan.nd
  exact (pss_cons (ps_expr (pe_dk D_ask_world hr (by rfl) (pa_cons (pv 0) pa_nil)))
      (pss_cons (ps_expr (pe_dk D_ask_player (hr.mono (by decide)) (by rfl) (pa_cons (pv 1) pa_nil)))
      (pss_cons (ps_if (pt_cmpR op_ne (pe_callB call_len_seq (by rfl) T.len PySem.boot_len (pa_cons (pv 2) pa_nil)) (pe_callB call_len_seq (by rfl) T.len PySem.boot_len (pa_cons (pe_ix ix_tup (pv 0) pe_int (fun _ _ => rfl)) pa_nil)) (nomark _)) (pss_one (ps_ret pe_bl)) pss_nil)
      (pss_cons (ps_for PassesOwn.never rfl (pi_range1 (by rfl) T.range (pa_cons (pe_callB call_len_seq (by rfl) T.len PySem.boot_len (pa_cons (pv 2) pa_nil)) pa_nil)) (pg_name (i := 3) nd rfl (Or.inl rfl)) (pss_one (ps_if (PW.pt (pw_and (pt_cmpR op_notN (pe_ix ix_list (pv 2) (pv 3) (fun _ _ => rfl)) pe_non (nomark _)) (pw_and1 (PW.pt (pw_or (pt_cmpR op_ne (pe_ix ix_list (pe_ix ix_tup (pv 0) pe_int (fun _ _ => rfl)) (pv 3) (fun _ _ => rfl)) (pv 1) (nomark _)) (pw_or1 (pt_cmpR op_notIn_seq (pe_ix ix_list (pv 2) (pv 3) (fun _ _ => rfl)) (pe_ix ix_list (pe_ix ix_tup (pv 0) pe_int (fun _ _ => rfl)) (pv 3) (fun _ _ => rfl)) (by rfl)))))))) (pss_one (ps_ret pe_bl)) pss_nil)))
      (pss_one (ps_ret pe_bl))))))
abbrev s_ask_plan : Stmt := topS 32
abbrev N_ask_plan : List Str := ["world", "player", "plan"]
theorem sc_ask_plan : FnScope N_ask_plan ["world", "player", "plan"] (defScope s_ask_plan) := ⟨rfl, rfl, rfl, by decide +kernel, rfl, by decide +kernel, by decide +kernel⟩
def t_ask_plan (K : PySem.W.Frag) (sp_is_plan : Sp) : TS :=
  (tIfS (tNot (tB (tCall sp_is_plan [] E0 (tCons (tVar 0) (tCons (tVar 1) (tCons (tVar 2) tNil)))))) tNever tNext)
theorem der_ask_plan {P : Program} {w : World} {K : PySem.W.Frag} {mg : Str → Option Value} {base : Heap} (T : Txt K mg) {sp_is_plan : Sp} (D_is_plan : Dk P w K mg base "is_plan" ["world", "player", "plan"] 5 sp_is_plan) {f : Addr} {cdv : Value} {A : Around} {outer : List Env} {s : Shared} {H : Hp} {E : XK} (hr : Room 5 (A.deeper (envOfC "ask_plan" (defScope s_ask_plan) s.heap.objs.size f cdv))) :
    PSs (cxOf CX0 P w K mg base N_ask_plan "ask_plan" (defScope s_ask_plan) f cdv A outer s H E).nox (defBody s_ask_plan) (t_ask_plan K sp_is_plan) := by
  have nd : N_ask_plan.Nodup := sc_ask_plan.nd
  exact (pss_one (ps_if (pt_not (pt_val (pe_dk D_is_plan hr (by rfl) (pa_cons (pv 0) (pa_cons (pv 1) (pa_cons (pv 2) pa_nil)))))) (pss_one ps_never) pss_nil))
abbrev s_follow : Stmt := topS 33
abbrev N_follow : List Str := ["world", "player", "plan", "steps", "room", "marks"]
theorem sc_follow : FnScope N_follow ["world", "player", "plan"] (defScope s_follow) := ⟨rfl, rfl, rfl, by decide +kernel, rfl, by decide +kernel, by decide +kernel⟩
def t_follow (K : PySem.W.Frag) (sp_ask_plan : Sp) : TS :=
  (tSeq (tDrop (tCall sp_ask_plan [] E0 (tCons (tVar 0) (tCons (tVar 1) (tCons (tVar 2) tNil)))))
  (tSeq (tAsg (tLst tNil) (gName 3))
  (tSeq (tFor (iRng1 (tCons (tCB (Evl.rLenS K) (tCons (tOp (rIxT K) (tVar 0) (tC (.int 0))) tNil)) tNil)) (gName 4) (tIfS (tTest (tOp rIsN (tOp (rIxL K) (tVar 2) (tVar 4)) (tC .non))) (tDrop (tBM K "list" rAppend (tVar 3) (tCons (tCB (Evl.rListS K) (tCons (tOp (rIxL K) (tOp (rIxT K) (tVar 0) (tC (.int 2))) (tVar 4)) tNil)) tNil))) (tDrop (tBM K "list" rAppend (tVar 3) (tCons (tLst (tCons (tOp (rIxL K) (tVar 2) (tVar 4)) tNil)) tNil)))))
  (tRet (tTup (tCons (tCB (Evl.rListS K) (tCons (tOp (rIxT K) (tVar 0) (tC (.int 0))) tNil)) (tCons (tLc (iList K (tOp (rIxT K) (tVar 0) (tC (.int 1)))) (gName 5) tYes (tCB (Evl.rListS K) (tCons (tVar 5) tNil)) [5]) (tCons (tVar 3) tNil))))))))
theorem der_follow {P : Program} {w : World} {K : PySem.W.Frag} {mg : Str → Option Value} {base : Heap} (T : Txt K mg) {sp_ask_plan : Sp} (D_ask_plan : Dk P w K mg base "ask_plan" ["world", "player", "plan"] 6 sp_ask_plan) {f : Addr} {cdv : Value} {A : Around} {outer : List Env} {s : Shared} {H : Hp} {E : XK} (hr : Room 6 (A.deeper (envOfC "follow" (defScope s_follow) s.heap.objs.size f cdv))) :
    PSs (cxOf CX0 P w K mg base N_follow "follow" (defScope s_follow) f cdv A outer s H E).nox (defBody s_follow) (t_follow K sp_ask_plan) := by
  have nd : N_follow.Nodup := sc_follow.nd
  exact (pss_cons (ps_expr (pe_dk D_ask_plan hr (by rfl) (pa_cons (pv 0) (pa_cons (pv 1) (pa_cons (pv 2) pa_nil)))))
      (pss_cons (ps_set (i := 3) nd rfl (Or.inl rfl) (pe_lst pa_nil))
      (pss_cons (ps_for PassesOwn.never rfl (pi_range1 (by rfl) T.range (pa_cons (pe_callB call_len_seq (by rfl) T.len PySem.boot_len (pa_cons (pe_ix ix_tup (pv 0) pe_int (fun _ _ => rfl)) pa_nil)) pa_nil)) (pg_name (i := 4) nd rfl (Or.inl rfl)) (pss_one (ps_if (pt_cmpR op_isN (pe_ix ix_list (pv 2) (pv 4) (fun _ _ => rfl)) pe_non (nomark _)) (pss_one (ps_expr (pe_bm PySem.F.plainAttrs_list PySem.F.slot_list_append PySem.F.type_list_append mt_append (pv 3) (pa_cons (pe_callTy call_list_of (by rfl) T.list (by decide +kernel) (pa_cons (pe_ix ix_list (pe_ix ix_tup (pv 0) pe_int (fun _ _ => rfl)) (pv 4) (fun _ _ => rfl)) pa_nil)) pa_nil)))) (pss_one (ps_expr (pe_bm PySem.F.plainAttrs_list PySem.F.slot_list_append PySem.F.type_list_append mt_append (pv 3) (pa_cons (pe_lst (pa_cons (pe_ix ix_list (pv 2) (pv 4) (fun _ _ => rfl)) pa_nil)) pa_nil)))))))
      (pss_one (ps_ret (pe_tup (pa_cons (pe_callTy call_list_of (by rfl) T.list (by decide +kernel) (pa_cons (pe_ix ix_tup (pv 0) pe_int (fun _ _ => rfl)) pa_nil)) (pa_cons (pe_lc (own := [("marks", 5)]) (g := gName 5) (tt := tYes) rfl nd (pi_list (pe_ix ix_tup (pv 0) pe_int (fun _ _ => rfl))) (blkOk_by (own := [("marks", 5)]) (N := N_follow) (by kernel_rfl)) (fun _ _ _ _ _ => pg_name (i := 5) nd rfl (Or.inl rfl)) (fun _ _ _ _ _ => pts_nil) (fun _ _ _ _ _ => (pe_callTy call_list_of (by rfl) T.list (by decide +kernel) (pa_cons (pv 5) pa_nil)))) (pa_cons (pv 3) pa_nil)))))))))
abbrev s_ask_marks : Stmt := topS 19
abbrev N_ask_marks : List Str := ["marks"]
theorem sc_ask_marks : FnScope N_ask_marks ["marks"] (defScope s_ask_marks) := ⟨rfl, rfl, rfl, by decide +kernel, rfl, by decide +kernel, by decide +kernel⟩
def t_ask_marks (K : PySem.W.Frag) (sp_are_marks : Sp) : TS :=
  (tIfS (tNot (tB (tCall sp_are_marks [] E0 (tCons (tVar 0) tNil)))) tNever tNext)
theorem der_ask_marks {P : Program} {w : World} {K : PySem.W.Frag} {mg : Str → Option Value} {base : Heap} (T : Txt K mg) {sp_are_marks : Sp} (D_are_marks : Dk P w K mg base "are_marks" ["marks"] 2 sp_are_marks) {f : Addr} {cdv : Value} {A : Around} {outer : List Env} {s : Shared} {H : Hp} {E : XK} (hr : Room 2 (A.deeper (envOfC "ask_marks" (defScope s_ask_marks) s.heap.objs.size f cdv))) :
    PSs (cxOf CX0 P w K mg base N_ask_marks "ask_marks" (defScope s_ask_marks) f cdv A outer s H E).nox (defBody s_ask_marks) (t_ask_marks K sp_are_marks) := by
  have nd : N_ask_marks.Nodup := sc_ask_marks.nd
  exact (pss_one (ps_if (pt_not (pt_val (pe_dk D_are_marks hr (by rfl) (pa_cons (pv 0) pa_nil)))) (pss_one ps_never) pss_nil))
abbrev s_ask_rooms : Stmt := topS 17
abbrev N_ask_rooms : List Str := ["world", "rooms"]
theorem sc_ask_rooms : FnScope N_ask_rooms ["world", "rooms"] (defScope s_ask_rooms) := ⟨rfl, rfl, rfl, by decide +kernel, rfl, by decide +kernel, by decide +kernel⟩
def t_ask_rooms (K : PySem.W.Frag) (sp_are_rooms : Sp) : TS :=
  (tIfS (tNot (tB (tCall sp_are_rooms [] E0 (tCons (tVar 1) (tCons (tCB (Evl.rLenS K) (tCons (tOp (rIxT K) (tVar 0) (tC (.int 0))) tNil)) tNil))))) tNever tNext)
theorem der_ask_rooms {P : Program} {w : World} {K : PySem.W.Frag} {mg : Str → Option Value} {base : Heap} (T : Txt K mg) {sp_are_rooms : Sp} (D_are_rooms : Dk P w K mg base "are_rooms" ["rooms", "many"] 2 sp_are_rooms) {f : Addr} {cdv : Value} {A : Around} {outer : List Env} {s : Shared} {H : Hp} {E : XK} (hr : Room 2 (A.deeper (envOfC "ask_rooms" (defScope s_ask_rooms) s.heap.objs.size f cdv))) :
    PSs (cxOf CX0 P w K mg base N_ask_rooms "ask_rooms" (defScope s_ask_rooms) f cdv A outer s H E).nox (defBody s_ask_rooms) (t_ask_rooms K sp_are_rooms) := by
  have nd : N_ask_rooms.Nodup := sc_ask_rooms.nd
  exact (pss_one (ps_if (pt_not (pt_val (pe_dk D_are_rooms hr (by rfl) (pa_cons (pv 1) (pa_cons (pe_callB call_len_seq (by rfl) T.len PySem.boot_len (pa_cons (pe_ix ix_tup (pv 0) pe_int (fun _ _ => rfl)) pa_nil)) pa_nil))))) (pss_one ps_never) pss_nil))
abbrev s_ask_fair : Stmt := topS 22
abbrev N_ask_fair : List Str := ["world", "rooms", "marks"]
theorem sc_ask_fair : FnScope N_ask_fair ["world", "rooms", "marks"] (defScope s_ask_fair) := ⟨rfl, rfl, rfl, by decide +kernel, rfl, by decide +kernel, by decide +kernel⟩
def t_ask_fair (K : PySem.W.Frag) (sp_ask_world : Sp) (sp_ask_marks : Sp) (sp_ask_rooms : Sp) : TS :=
  (tSeq (tDrop (tCall sp_ask_world [] E0 (tCons (tVar 0) tNil)))
  (tSeq (tDrop (tCall sp_ask_marks [] E0 (tCons (tVar 2) tNil)))
  (tDrop (tCall sp_ask_rooms [] E0 (tCons (tVar 0) (tCons (tVar 1) tNil))))))
theorem der_ask_fair {P : Program} {w : World} {K : PySem.W.Frag} {mg : Str → Option Value} {base : Heap} (T : Txt K mg) {sp_ask_world : Sp} (D_ask_world : Dk P w K mg base "ask_world" ["world"] 4 sp_ask_world) {sp_ask_marks : Sp} (D_ask_marks : Dk P w K mg base "ask_marks" ["marks"] 3 sp_ask_marks) {sp_ask_rooms : Sp} (D_ask_rooms : Dk P w K mg base "ask_rooms" ["world", "rooms"] 3 sp_ask_rooms) {f : Addr} {cdv : Value} {A : Around} {outer : List Env} {s : Shared} {H : Hp} {E : XK} (hr : Room 4 (A.deeper (envOfC "ask_fair" (defScope s_ask_fair) s.heap.objs.size f cdv))) :
    PSs (cxOf CX0 P w K mg base N_ask_fair "ask_fair" (defScope s_ask_fair) f cdv A outer s H E).nox (defBody s_ask_fair) (t_ask_fair K sp_ask_world sp_ask_marks sp_ask_rooms) := by
  have nd : N_ask_fair.Nodup := sc_ask_fair.nd
  exact (pss_cons (ps_expr (pe_dk D_ask_world hr (by rfl) (pa_cons (pv 0) pa_nil)))
      (pss_cons (ps_expr (pe_dk D_ask_marks (hr.mono (by decide)) (by rfl) (pa_cons (pv 2) pa_nil)))
      (pss_one (ps_expr (pe_dk D_ask_rooms (hr.mono (by decide)) (by rfl) (pa_cons (pv 0) (pa_cons (pv 1) pa_nil)))))))
abbrev s_inner : Stmt := topS 23
abbrev N_inner : List Str := ["world", "rooms", "found", "room", "there"]
theorem sc_inner : FnScope N_inner ["world", "rooms"] (defScope s_inner) := ⟨rfl, rfl, rfl, by decide +kernel, rfl, by decide +kernel, by decide +kernel⟩
def t_inner (K : PySem.W.Frag) : TS :=
  (tSeq (tAsg (tLst tNil) (gName 2))
  (tSeq (tFor (iRng1 (tCons (tCB (Evl.rLenS K) (tCons (tOp (rIxT K) (tVar 0) (tC (.int 0))) tNil)) tNil)) (gName 3) (tDrop (tBM K "list" rAppend (tVar 2) (tCons (tLc (iList K (tOp (rIxL K) (tOp (rIxT K) (tVar 0) (tC (.int 2))) (tVar 3))) (gName 4) (tAnd (tTest (tOp (rIn K false) (tVar 3) (tVar 1))) (tTest (tOp (rIn K false) (tVar 4) (tVar 1)))) (tVar 4) [4]) tNil))))
  (tRet (tVar 2))))
theorem der_inner {P : Program} {w : World} {K : PySem.W.Frag} {mg : Str → Option Value} {base : Heap} (T : Txt K mg) {f : Addr} {cdv : Value} {A : Around} {outer : List Env} {s : Shared} {H : Hp} {E : XK} (hr : Room 0 (A.deeper (envOfC "inner" (defScope s_inner) s.heap.objs.size f cdv))) :
    PSs (cxOf CX0 P w K mg base N_inner "inner" (defScope s_inner) f cdv A outer s H E).nox (defBody s_inner) (t_inner K) := by
  have nd : N_inner.Nodup := sc_inner.nd
  exact (pss_cons (ps_set (i := 2) nd rfl (Or.inl rfl) (pe_lst pa_nil))
      (pss_cons (ps_for PassesOwn.never rfl (pi_range1 (by rfl) T.range (pa_cons (pe_callB call_len_seq (by rfl) T.len PySem.boot_len (pa_cons (pe_ix ix_tup (pv 0) pe_int (fun _ _ => rfl)) pa_nil)) pa_nil)) (pg_name (i := 3) nd rfl (Or.inr rfl)) (pss_one (ps_expr (pe_bm PySem.F.plainAttrs_list PySem.F.slot_list_append PySem.F.type_list_append mt_append (pv 2) (pa_cons (pe_lc (own := [("there", 4)]) (g := gName 4) (tt := (tAnd (tTest (tOp (rIn K false) (tVar 3) (tVar 1))) (tTest (tOp (rIn K false) (tVar 4) (tVar 1))))) rfl nd (pi_list (pe_ix ix_list (pe_ix ix_tup (pv 0) pe_int (fun _ _ => rfl)) (pv 3) (fun _ _ => rfl))) (blkOk_by (own := [("there", 4)]) (N := N_inner) (by kernel_rfl)) (fun _ _ _ _ _ => pg_name (i := 4) nd rfl (Or.inl rfl)) (fun _ _ _ _ _ => (pts_one (PW.pt (pw_and (pt_cmpR op_in_seq (pv 3) (pv 1) (by rfl)) (pw_and1 (pt_cmpR op_in_seq (pv 4) (pv 1) (by rfl))))))) (fun _ _ _ _ _ => (pv 4))) pa_nil)))))
      (pss_one (ps_ret (pv 2)))))
abbrev s_leading : Stmt := topS 24
abbrev N_leading : List Str := ["steps", "kept", "goal", "found", "more", "new", "room", "one"]
theorem sc_leading : FnScope N_leading ["steps", "kept", "goal"] (defScope s_leading) := ⟨rfl, rfl, rfl, by decide +kernel, rfl, by decide +kernel, by decide +kernel⟩
def t_leading (K : PySem.W.Frag) : TS :=
  (tSeq (tAsg (tLc (iList K (tVar 1)) (gName 6) (tTest (tOp (rIn K false) (tVar 6) (tVar 2))) (tVar 6) [6]) (gName 3))
  (tSeq (tAsg (tC (.bl true)) (gName 4))
  (tSeq (tWhile (tB (tVar 4)) (tSeq (tAsg (tLc (iList K (tVar 1)) (gName 6) (tAnd (tTest (tOp (rIn K true) (tVar 6) (tVar 3))) (tTest (tOp rGt (tCB (Evl.rLenS K) (tCons (tLc (iList K (tOp (rIxL K) (tVar 0) (tVar 6))) (gName 7) (tTest (tOp (rIn K false) (tVar 7) (tVar 3))) (tVar 7) [7]) tNil)) (tC (.int 0))))) (tVar 6) [6]) (gName 5))
  (tSeq (tAsg (tOp rCat (tVar 3) (tVar 5)) (gName 3))
  (tAsg (tOp rGt (tCB (Evl.rLenS K) (tCons (tVar 5) tNil)) (tC (.int 0))) (gName 4)))))
  (tRet (tCB (rSorted K) (tCons (tVar 3) tNil))))))
theorem der_leading {P : Program} {w : World} {K : PySem.W.Frag} {mg : Str → Option Value} {base : Heap} (T : Txt K mg) {f : Addr} {cdv : Value} {A : Around} {outer : List Env} {s : Shared} {H : Hp} {E : XK} (hr : Room 0 (A.deeper (envOfC "leading" (defScope s_leading) s.heap.objs.size f cdv))) :
    PSs (cxOf CX0 P w K mg base N_leading "leading" (defScope s_leading) f cdv A outer s H E).nox (defBody s_leading) (t_leading K) := by
  have nd : N_leading.Nodup := sc_leading.nd
  exact (pss_cons (ps_set (i := 3) nd rfl (Or.inr rfl) (pe_lc (own := [("room", 6)]) (g := gName 6) (tt := (tTest (tOp (rIn K false) (tVar 6) (tVar 2)))) rfl nd (pi_list (pv 1)) (blkOk_by (own := [("room", 6)]) (N := N_leading) (by kernel_rfl)) (fun _ _ _ _ _ => pg_name (i := 6) nd rfl (Or.inl rfl)) (fun _ _ _ _ _ => (pts_one (pt_cmpR op_in_seq (pv 6) (pv 2) (by rfl)))) (fun _ _ _ _ _ => (pv 6))))
      (pss_cons (ps_set (i := 4) nd rfl (Or.inl rfl) pe_bl)
      (pss_cons (ps_while PassesOwn.never (pt_val (pv 4)) (pss_cons (ps_setLc (i := 5) (own := [("room", 6)]) (g := gName 6) (tt := (tAnd (tTest (tOp (rIn K true) (tVar 6) (tVar 3))) (tTest (tOp rGt (tCB (Evl.rLenS K) (tCons (tLc (iList K (tOp (rIxL K) (tVar 0) (tVar 6))) (gName 7) (tTest (tOp (rIn K false) (tVar 7) (tVar 3))) (tVar 7) [7]) tNil)) (tC (.int 0)))))) rfl nd rfl rfl (sw_true rfl rfl rfl (by decide +kernel)) (pi_list (pv 1)) (blkOk_by (own := [("room", 6)]) (N := N_leading) (by kernel_rfl)) (fun _ _ _ _ _ => pg_name (i := 6) nd rfl (Or.inl rfl)) (fun _ _ _ _ _ => (pts_one (PW.pt (pw_and (pt_cmpR op_notIn_seq (pv 6) (pv 3) (by rfl)) (pw_and1 (pt_cmpR op_gt (pe_callB call_len_seq (by rfl) T.len PySem.boot_len (pa_cons (pe_lc (own := [("one", 7)]) (g := gName 7) (tt := (tTest (tOp (rIn K false) (tVar 7) (tVar 3)))) rfl nd (pi_list (pe_ix ix_list (pv 0) (pv 6) (fun _ _ => rfl))) (blkOk_by (own := [("one", 7)]) (N := N_leading) (by kernel_rfl)) (fun _ _ _ _ _ => pg_name (i := 7) nd rfl (Or.inl rfl)) (fun _ _ _ _ _ => (pts_one (pt_cmpR op_in_seq (pv 7) (pv 3) (by rfl)))) (fun _ _ _ _ _ => (pv 7))) pa_nil)) pe_int (nomark _))))))) (fun _ _ _ _ _ => (pv 6)))
      (pss_cons (ps_set (i := 3) nd rfl (Or.inr rfl) (pe_op op_cat (pv 3) (pv 5)))
      (pss_one (ps_set (i := 4) nd rfl (Or.inl rfl) (pe_cmpR op_gt (pe_callB call_len_seq (by rfl) T.len PySem.boot_len (pa_cons (pv 5) pa_nil)) pe_int (nomark _)))))))
      (pss_one (ps_ret (pe_callB cr_sorted (by rfl) T.sorted (by decide +kernel) (pa_cons (pv 3) pa_nil)))))))
abbrev s_taken_off : Stmt := topS 25
abbrev N_taken_off : List Str := ["world", "rooms", "marks", "kept", "rows", "more", "steps", "stuck", "mark", "near", "far", "room"]
theorem sc_taken_off : FnScope N_taken_off ["world", "rooms", "marks"] (defScope s_taken_off) := ⟨rfl, rfl, rfl, by decide +kernel, rfl, by decide +kernel, by decide +kernel⟩
def t_taken_off (K : PySem.W.Frag) (sp_inner : Sp) (sp_leading : Sp) : TS :=
  (tSeq (tAsg (tCB (Evl.rListS K) (tCons (tVar 1) tNil)) (gName 3))
  (tSeq (tAsg (tLst tNil) (gName 4))
  (tSeq (tAsg (tC (.bl true)) (gName 5))
  (tSeq (tWhile (tB (tVar 5)) (tSeq (tAsg (tC (.bl false)) (gName 5))
  (tSeq (tAsg (tCall sp_inner [] E0 (tCons (tVar 0) (tCons (tVar 3) tNil))) (gName 6))
  (tSeq (tAsg (tLc (iList K (tVar 3)) (gName 11) (tTest (tOp rEq (tCB (Evl.rLenS K) (tCons (tOp (rIxL K) (tVar 6) (tVar 11)) tNil)) (tC (.int 0)))) (tVar 11) [11]) (gName 7))
  (tSeq (tIfS (tTest (tOp rGt (tCB (Evl.rLenS K) (tCons (tVar 7) tNil)) (tC (.int 0)))) (tSeq (tDrop (tBM K "list" rAppend (tVar 4) (tCons (tTup (tCons (tVar 7) (tCons (tC .non) tNil))) tNil)))
  (tSeq (tAsg (tLc (iList K (tVar 3)) (gName 11) (tTest (tOp (rIn K true) (tVar 11) (tVar 7))) (tVar 11) [11]) (gName 3))
  (tAsg (tC (.bl true)) (gName 5)))) tNext)
  (tFor (iList K (tVar 2)) (gName 8) (tSeq (tAsg (tCall sp_inner [] E0 (tCons (tVar 0) (tCons (tVar 3) tNil))) (gName 6))
  (tSeq (tAsg (tCall sp_leading [] E0 (tCons (tVar 6) (tCons (tVar 3) (tCons (tLc (iList K (tVar 3)) (gName 11) (tTest (tOp (rIn K false) (tVar 8) (tOp (rIxL K) (tOp (rIxT K) (tVar 0) (tC (.int 1))) (tVar 11)))) (tVar 11) [11]) tNil)))) (gName 9))
  (tSeq (tAsg (tLc (iList K (tVar 3)) (gName 11) (tTest (tOp (rIn K true) (tVar 11) (tVar 9))) (tVar 11) [11]) (gName 10))
  (tIfS (tTest (tOp rGt (tCB (Evl.rLenS K) (tCons (tVar 10) tNil)) (tC (.int 0)))) (tSeq (tDrop (tBM K "list" rAppend (tVar 4) (tCons (tTup (tCons (tVar 10) (tCons (tVar 8) tNil))) tNil)))
  (tSeq (tAsg (tVar 9) (gName 3))
  (tAsg (tC (.bl true)) (gName 5)))) tNext))))))))))
  (tRet (tTup (tCons (tVar 4) (tCons (tVar 3) tNil))))))))
theorem der_taken_off {P : Program} {w : World} {K : PySem.W.Frag} {mg : Str → Option Value} {base : Heap} (T : Txt K mg) {sp_inner : Sp} (D_inner : Dk P w K mg base "inner" ["world", "rooms"] 1 sp_inner) {sp_leading : Sp} (D_leading : Dk P w K mg base "leading" ["steps", "kept", "goal"] 1 sp_leading) {f : Addr} {cdv : Value} {A : Around} {outer : List Env} {s : Shared} {H : Hp} {E : XK} (hr : Room 1 (A.deeper (envOfC "taken_off" (defScope s_taken_off) s.heap.objs.size f cdv))) :
    PSs (cxOf CX0 P w K mg base N_taken_off "taken_off" (defScope s_taken_off) f cdv A outer s H E).nox (defBody s_taken_off) (t_taken_off K sp_inner sp_leading) := by
  have nd : N_taken_off.Nodup := sc_taken_off.nd
  exact (pss_cons (ps_set (i := 3) nd rfl (Or.inl rfl) (pe_callTy call_list_of (by rfl) T.list (by decide +kernel) (pa_cons (pv 1) pa_nil)))
      (pss_cons (ps_set (i := 4) nd rfl (Or.inl rfl) (pe_lst pa_nil))
      (pss_cons (ps_set (i := 5) nd rfl (Or.inl rfl) pe_bl)
      (pss_cons (ps_while PassesOwn.never (pt_val (pv 5)) (pss_cons (ps_set (i := 5) nd rfl (Or.inl rfl) pe_bl)
      (pss_cons (ps_set (i := 6) nd rfl (Or.inr rfl) (pe_dk D_inner hr (by rfl) (pa_cons (pv 0) (pa_cons (pv 3) pa_nil))))
      (pss_cons (ps_set (i := 7) nd rfl (Or.inr rfl) (pe_lc (own := [("room", 11)]) (g := gName 11) (tt := (tTest (tOp rEq (tCB (Evl.rLenS K) (tCons (tOp (rIxL K) (tVar 6) (tVar 11)) tNil)) (tC (.int 0))))) rfl nd (pi_list (pv 3)) (blkOk_by (own := [("room", 11)]) (N := N_taken_off) (by kernel_rfl)) (fun _ _ _ _ _ => pg_name (i := 11) nd rfl (Or.inl rfl)) (fun _ _ _ _ _ => (pts_one (pt_cmpR op_eq (pe_callB call_len_seq (by rfl) T.len PySem.boot_len (pa_cons (pe_ix ix_list (pv 6) (pv 11) (fun _ _ => rfl)) pa_nil)) pe_int (nomark _)))) (fun _ _ _ _ _ => (pv 11))))
      (pss_cons (ps_if (pt_cmpR op_gt (pe_callB call_len_seq (by rfl) T.len PySem.boot_len (pa_cons (pv 7) pa_nil)) pe_int (nomark _)) (pss_cons (ps_expr (pe_bm PySem.F.plainAttrs_list PySem.F.slot_list_append PySem.F.type_list_append mt_append (pv 4) (pa_cons (pe_tup (pa_cons (pv 7) (pa_cons pe_non pa_nil))) pa_nil)))
      (pss_cons (ps_setLc (i := 3) (own := [("room", 11)]) (g := gName 11) (tt := (tTest (tOp (rIn K true) (tVar 11) (tVar 7)))) rfl nd rfl rfl (sw_true rfl rfl rfl (by decide +kernel)) (pi_list (pv 3)) (blkOk_by (own := [("room", 11)]) (N := N_taken_off) (by kernel_rfl)) (fun _ _ _ _ _ => pg_name (i := 11) nd rfl (Or.inl rfl)) (fun _ _ _ _ _ => (pts_one (pt_cmpR op_notIn_seq (pv 11) (pv 7) (by rfl)))) (fun _ _ _ _ _ => (pv 11)))
      (pss_one (ps_set (i := 5) nd rfl (Or.inl rfl) pe_bl)))) pss_nil)
      (pss_one (ps_for PassesOwn.never rfl (pi_list (pv 2)) (pg_name (i := 8) nd rfl (Or.inr rfl)) (pss_cons (ps_set (i := 6) nd rfl (Or.inr rfl) (pe_dk D_inner hr (by rfl) (pa_cons (pv 0) (pa_cons (pv 3) pa_nil))))
      (pss_cons (ps_set (i := 9) nd rfl (Or.inr rfl) (pe_dk D_leading hr (by rfl) (pa_cons (pv 6) (pa_cons (pv 3) (pa_cons (pe_lc (own := [("room", 11)]) (g := gName 11) (tt := (tTest (tOp (rIn K false) (tVar 8) (tOp (rIxL K) (tOp (rIxT K) (tVar 0) (tC (.int 1))) (tVar 11))))) rfl nd (pi_list (pv 3)) (blkOk_by (own := [("room", 11)]) (N := N_taken_off) (by kernel_rfl)) (fun _ _ _ _ _ => pg_name (i := 11) nd rfl (Or.inl rfl)) (fun _ _ _ _ _ => (pts_one (pt_cmpR op_in_seq (pv 8) (pe_ix ix_list (pe_ix ix_tup (pv 0) pe_int (fun _ _ => rfl)) (pv 11) (fun _ _ => rfl)) (by rfl)))) (fun _ _ _ _ _ => (pv 11))) pa_nil)))))
      (pss_cons (ps_setLc (i := 10) (own := [("room", 11)]) (g := gName 11) (tt := (tTest (tOp (rIn K true) (tVar 11) (tVar 9)))) rfl nd rfl rfl (sw_true rfl rfl rfl (by decide +kernel)) (pi_list (pv 3)) (blkOk_by (own := [("room", 11)]) (N := N_taken_off) (by kernel_rfl)) (fun _ _ _ _ _ => pg_name (i := 11) nd rfl (Or.inl rfl)) (fun _ _ _ _ _ => (pts_one (pt_cmpR op_notIn_seq (pv 11) (pv 9) (by rfl)))) (fun _ _ _ _ _ => (pv 11)))
      (pss_one (ps_if (pt_cmpR op_gt (pe_callB call_len_seq (by rfl) T.len PySem.boot_len (pa_cons (pv 10) pa_nil)) pe_int (nomark _)) (pss_cons (ps_expr (pe_bm PySem.F.plainAttrs_list PySem.F.slot_list_append PySem.F.type_list_append mt_append (pv 4) (pa_cons (pe_tup (pa_cons (pv 10) (pa_cons (pv 8) pa_nil))) pa_nil)))
      (pss_cons (ps_set (i := 3) nd rfl (Or.inl rfl) (pv 9))
      (pss_one (ps_set (i := 5) nd rfl (Or.inl rfl) pe_bl)))) pss_nil))))))))))))
      (pss_one (ps_ret (pe_tup (pa_cons (pv 4) (pa_cons (pv 3) pa_nil)))))))))
abbrev s_fair_rooms : Stmt := topS 26
abbrev N_fair_rooms : List Str := ["world", "rooms", "marks"]
theorem sc_fair_rooms : FnScope N_fair_rooms ["world", "rooms", "marks"] (defScope s_fair_rooms) := ⟨rfl, rfl, rfl, by decide +kernel, rfl, by decide +kernel, by decide +kernel⟩
def t_fair_rooms (K : PySem.W.Frag) (sp_ask_fair : Sp) (sp_taken_off : Sp) : TS :=
  (tSeq (tDrop (tCall sp_ask_fair [] E0 (tCons (tVar 0) (tCons (tVar 1) (tCons (tVar 2) tNil)))))
  (tRet (tOp (rIxT K) (tCall sp_taken_off [] E0 (tCons (tVar 0) (tCons (tVar 1) (tCons (tVar 2) tNil)))) (tC (.int 1)))))
theorem der_fair_rooms {P : Program} {w : World} {K : PySem.W.Frag} {mg : Str → Option Value} {base : Heap} (T : Txt K mg) {sp_ask_fair : Sp} (D_ask_fair : Dk P w K mg base "ask_fair" ["world", "rooms", "marks"] 5 sp_ask_fair) {sp_taken_off : Sp} (D_taken_off : Dk P w K mg base "taken_off" ["world", "rooms", "marks"] 2 sp_taken_off) {f : Addr} {cdv : Value} {A : Around} {outer : List Env} {s : Shared} {H : Hp} {E : XK} (hr : Room 5 (A.deeper (envOfC "fair_rooms" (defScope s_fair_rooms) s.heap.objs.size f cdv))) :
    PSs (cxOf CX0 P w K mg base N_fair_rooms "fair_rooms" (defScope s_fair_rooms) f cdv A outer s H E).nox (defBody s_fair_rooms) (t_fair_rooms K sp_ask_fair sp_taken_off) := by
  have nd : N_fair_rooms.Nodup := sc_fair_rooms.nd
  exact (pss_cons (ps_expr (pe_dk D_ask_fair hr (by rfl) (pa_cons (pv 0) (pa_cons (pv 1) (pa_cons (pv 2) pa_nil)))))
      (pss_one (ps_ret (pe_ix ix_tup (pe_dk D_taken_off (hr.mono (by decide)) (by rfl) (pa_cons (pv 0) (pa_cons (pv 1) (pa_cons (pv 2) pa_nil)))) pe_int (fun _ _ => rfl)))))
abbrev s_ask_game : Stmt := topS 35
abbrev N_ask_game : List Str := ["world", "player", "rooms"]
theorem sc_ask_game : FnScope N_ask_game ["world", "player", "rooms"] (defScope s_ask_game) := ⟨rfl, rfl, rfl, by decide +kernel, rfl, by decide +kernel, by decide +kernel⟩
def t_ask_game (K : PySem.W.Frag) (sp_ask_world : Sp) (sp_ask_player : Sp) (sp_ask_rooms : Sp) : TS :=
  (tSeq (tDrop (tCall sp_ask_world [] E0 (tCons (tVar 0) tNil)))
  (tSeq (tDrop (tCall sp_ask_player [] E0 (tCons (tVar 1) tNil)))
  (tDrop (tCall sp_ask_rooms [] E0 (tCons (tVar 0) (tCons (tVar 2) tNil))))))
theorem der_ask_game {P : Program} {w : World} {K : PySem.W.Frag} {mg : Str → Option Value} {base : Heap} (T : Txt K mg) {sp_ask_world : Sp} (D_ask_world : Dk P w K mg base "ask_world" ["world"] 4 sp_ask_world) {sp_ask_player : Sp} (D_ask_player : Dk P w K mg base "ask_player" ["player"] 1 sp_ask_player) {sp_ask_rooms : Sp} (D_ask_rooms : Dk P w K mg base "ask_rooms" ["world", "rooms"] 3 sp_ask_rooms) {f : Addr} {cdv : Value} {A : Around} {outer : List Env} {s : Shared} {H : Hp} {E : XK} (hr : Room 4 (A.deeper (envOfC "ask_game" (defScope s_ask_game) s.heap.objs.size f cdv))) :
    PSs (cxOf CX0 P w K mg base N_ask_game "ask_game" (defScope s_ask_game) f cdv A outer s H E).nox (defBody s_ask_game) (t_ask_game K sp_ask_world sp_ask_player sp_ask_rooms) := by
  have nd : N_ask_game.Nodup := sc_ask_game.nd
  exact (pss_cons (ps_expr (pe_dk D_ask_world hr (by rfl) (pa_cons (pv 0) pa_nil)))
      (pss_cons (ps_expr (pe_dk D_ask_player (hr.mono (by decide)) (by rfl) (pa_cons (pv 1) pa_nil)))
      (pss_one (ps_expr (pe_dk D_ask_rooms (hr.mono (by decide)) (by rfl) (pa_cons (pv 0) (pa_cons (pv 2) pa_nil)))))))
abbrev s_can_now : Stmt := topS 36
abbrev N_can_now : List Str := ["world", "player", "room", "known", "into", "there"]
theorem sc_can_now : FnScope N_can_now ["world", "player", "room", "known"] (defScope s_can_now) := ⟨rfl, rfl, rfl, by decide +kernel, rfl, by decide +kernel, by decide +kernel⟩
def t_can_now (K : PySem.W.Frag) : TS :=
  (tSeq (tAsg (tLc (iList K (tOp (rIxL K) (tOp (rIxT K) (tVar 0) (tC (.int 2))) (tVar 2))) (gName 5) (tTest (tOp (rIn K false) (tVar 5) (tVar 3))) (tVar 5) [5]) (gName 4))
  (tSeq (tIfS (tTest (tOp rEq (tOp (rIxL K) (tOp (rIxT K) (tVar 0) (tC (.int 0))) (tVar 2)) (tVar 1))) (tRet (tOp rGt (tCB (Evl.rLenS K) (tCons (tVar 4) tNil)) (tC (.int 0)))) tNext)
  (tRet (tOp rEq (tCB (Evl.rLenS K) (tCons (tVar 4) tNil)) (tCB (Evl.rLenS K) (tCons (tOp (rIxL K) (tOp (rIxT K) (tVar 0) (tC (.int 2))) (tVar 2)) tNil))))))
theorem der_can_now {P : Program} {w : World} {K : PySem.W.Frag} {mg : Str → Option Value} {base : Heap} (T : Txt K mg) {f : Addr} {cdv : Value} {A : Around} {outer : List Env} {s : Shared} {H : Hp} {E : XK} (hr : Room 0 (A.deeper (envOfC "can_now" (defScope s_can_now) s.heap.objs.size f cdv))) :
    PSs (cxOf CX0 P w K mg base N_can_now "can_now" (defScope s_can_now) f cdv A outer s H E).nox (defBody s_can_now) (t_can_now K) := by
  have nd : N_can_now.Nodup := sc_can_now.nd
  exact (pss_cons (ps_setLc (i := 4) (own := [("there", 5)]) (g := gName 5) (tt := (tTest (tOp (rIn K false) (tVar 5) (tVar 3)))) rfl nd rfl rfl (sw_true rfl rfl rfl (by decide +kernel)) (pi_list (pe_ix ix_list (pe_ix ix_tup (pv 0) pe_int (fun _ _ => rfl)) (pv 2) (fun _ _ => rfl))) (blkOk_by (own := [("there", 5)]) (N := N_can_now) (by kernel_rfl)) (fun _ _ _ _ _ => pg_name (i := 5) nd rfl (Or.inl rfl)) (fun _ _ _ _ _ => (pts_one (pt_cmpR op_in_seq (pv 5) (pv 3) (by rfl)))) (fun _ _ _ _ _ => (pv 5)))
      (pss_cons (ps_if (pt_cmpR op_eq (pe_ix ix_list (pe_ix ix_tup (pv 0) pe_int (fun _ _ => rfl)) (pv 2) (fun _ _ => rfl)) (pv 1) (nomark _)) (pss_one (ps_ret (pe_cmpR op_gt (pe_callB call_len_seq (by rfl) T.len PySem.boot_len (pa_cons (pv 4) pa_nil)) pe_int (nomark _)))) pss_nil)
      (pss_one (ps_ret (pe_cmpR op_eq (pe_callB call_len_seq (by rfl) T.len PySem.boot_len (pa_cons (pv 4) pa_nil)) (pe_callB call_len_seq (by rfl) T.len PySem.boot_len (pa_cons (pe_ix ix_list (pe_ix ix_tup (pv 0) pe_int (fun _ _ => rfl)) (pv 2) (fun _ _ => rfl)) pa_nil)) (nomark _))))))
abbrev s_brought : Stmt := topS 37
abbrev N_brought : List Str := ["world", "player", "rooms", "within", "had", "ranks", "rank", "more", "known", "new", "room"]
theorem sc_brought : FnScope N_brought ["world", "player", "rooms", "within", "had"] (defScope s_brought) := ⟨rfl, rfl, rfl, by decide +kernel, rfl, by decide +kernel, by decide +kernel⟩
def t_brought (K : PySem.W.Frag) (sp_can_now : Sp) : TS :=
  (tSeq (tAsg (tLc (iRng1 (tCons (tCB (Evl.rLenS K) (tCons (tOp (rIxT K) (tVar 0) (tC (.int 0))) tNil)) tNil)) (gName 10) tYes (tIf (tAnd (tTest (tOp (rIn K false) (tVar 10) (tVar 2))) (tTest (tOp (rIn K false) (tVar 10) (tVar 3)))) (tC (.int 0)) (tC .non)) [10]) (gName 5))
  (tSeq (tAsg (tC (.int 0)) (gName 6))
  (tSeq (tAsg (tC (.bl true)) (gName 7))
  (tSeq (tWhile (tB (tVar 7)) (tSeq (tAsg (tOp rCat (tVar 4) (tLc (iRng1 (tCons (tCB (Evl.rLenS K) (tCons (tVar 5) tNil)) tNil)) (gName 10) (tTest (tOp rNotN (tOp (rIxL K) (tVar 5) (tVar 10)) (tC .non))) (tVar 10) [10])) (gName 8))
  (tSeq (tAsg (tLc (iList K (tVar 3)) (gName 10) (tAnd (tTest (tOp rIsN (tOp (rIxL K) (tVar 5) (tVar 10)) (tC .non))) (tB (tCall sp_can_now [] E0 (tCons (tVar 0) (tCons (tVar 1) (tCons (tVar 10) (tCons (tVar 8) tNil))))))) (tVar 10) [10]) (gName 9))
  (tSeq (tAsg (tOp rPlus (tVar 6) (tC (.int 1))) (gName 6))
  (tSeq (tFor (iList K (tVar 9)) (gName 10) (tAsg (tVar 6) (gSub (tVar 5) (tVar 10) rSetL)))
  (tAsg (tOp rGt (tCB (Evl.rLenS K) (tCons (tVar 9) tNil)) (tC (.int 0))) (gName 7)))))))
  (tRet (tVar 5))))))
theorem der_brought {P : Program} {w : World} {K : PySem.W.Frag} {mg : Str → Option Value} {base : Heap} (T : Txt K mg) {sp_can_now : Sp} (D_can_now : Dk P w K mg base "can_now" ["world", "player", "room", "known"] 1 sp_can_now) {f : Addr} {cdv : Value} {A : Around} {outer : List Env} {s : Shared} {H : Hp} {E : XK} (hr : Room 1 (A.deeper (envOfC "brought" (defScope s_brought) s.heap.objs.size f cdv))) :
    PSs (cxOf CX0 P w K mg base N_brought "brought" (defScope s_brought) f cdv A outer s H E).nox (defBody s_brought) (t_brought K sp_can_now) := by
  have nd : N_brought.Nodup := sc_brought.nd
  exact (pss_cons (ps_set (i := 5) nd rfl (Or.inr rfl) (pe_lc (own := [("room", 10)]) (g := gName 10) (tt := tYes) rfl nd (pi_range1 (by rfl) T.range (pa_cons (pe_callB call_len_seq (by rfl) T.len PySem.boot_len (pa_cons (pe_ix ix_tup (pv 0) pe_int (fun _ _ => rfl)) pa_nil)) pa_nil)) (blkOk_by (own := [("room", 10)]) (N := N_brought) (by kernel_rfl)) (fun _ _ _ _ _ => pg_name (i := 10) nd rfl (Or.inl rfl)) (fun _ _ _ _ _ => pts_nil) (fun _ _ _ _ _ => (pe_ifExp (PW.pt (pw_and (pt_cmpR op_in_seq (pv 10) (pv 2) (by rfl)) (pw_and1 (pt_cmpR op_in_seq (pv 10) (pv 3) (by rfl))))) pe_int pe_non))))
      (pss_cons (ps_set (i := 6) nd rfl (Or.inl rfl) pe_int)
      (pss_cons (ps_set (i := 7) nd rfl (Or.inl rfl) pe_bl)
      (pss_cons (ps_while PassesOwn.never (pt_val (pv 7)) (pss_cons (ps_set (i := 8) nd rfl (Or.inr rfl) (pe_op op_cat (pv 4) (pe_lc (own := [("room", 10)]) (g := gName 10) (tt := (tTest (tOp rNotN (tOp (rIxL K) (tVar 5) (tVar 10)) (tC .non)))) rfl nd (pi_range1 (by rfl) T.range (pa_cons (pe_callB call_len_seq (by rfl) T.len PySem.boot_len (pa_cons (pv 5) pa_nil)) pa_nil)) (blkOk_by (own := [("room", 10)]) (N := N_brought) (by kernel_rfl)) (fun _ _ _ _ _ => pg_name (i := 10) nd rfl (Or.inl rfl)) (fun _ _ _ _ _ => (pts_one (pt_cmpR op_notN (pe_ix ix_list (pv 5) (pv 10) (fun _ _ => rfl)) pe_non (nomark _)))) (fun _ _ _ _ _ => (pv 10)))))
      (pss_cons (ps_setLc (i := 9) (own := [("room", 10)]) (g := gName 10) (tt := (tAnd (tTest (tOp rIsN (tOp (rIxL K) (tVar 5) (tVar 10)) (tC .non))) (tB (tCall sp_can_now [] E0 (tCons (tVar 0) (tCons (tVar 1) (tCons (tVar 10) (tCons (tVar 8) tNil)))))))) rfl nd rfl rfl (sw_true rfl rfl rfl (by decide +kernel)) (pi_list (pv 3)) (blkOk_by (own := [("room", 10)]) (N := N_brought) (by kernel_rfl)) (fun _ _ _ _ _ => pg_name (i := 10) nd rfl (Or.inl rfl)) (fun _ _ _ _ _ => (pts_one (PW.pt (pw_and (pt_cmpR op_isN (pe_ix ix_list (pv 5) (pv 10) (fun _ _ => rfl)) pe_non (nomark _)) (pw_and1 (pt_val (pe_dk D_can_now hr (by rfl) (pa_cons (pv 0) (pa_cons (pv 1) (pa_cons (pv 10) (pa_cons (pv 8) pa_nil))))))))))) (fun _ _ _ _ _ => (pv 10)))
      (pss_cons (ps_set (i := 6) nd rfl (Or.inl rfl) (pe_op op_add (pv 6) pe_int))
      (pss_cons (ps_for PassesOwn.never rfl (pi_list (pv 9)) (pg_name (i := 10) nd rfl (Or.inl rfl)) (pss_one (ps_asg (pv 6) (pg_sub (pv 5) (pv 10) set_list))))
      (pss_one (ps_set (i := 7) nd rfl (Or.inl rfl) (pe_cmpR op_gt (pe_callB call_len_seq (by rfl) T.len PySem.boot_len (pa_cons (pv 9) pa_nil)) pe_int (nomark _)))))))))
      (pss_one (ps_ret (pv 5)))))))
abbrev s_downwards : Stmt := topS 38
abbrev N_downwards : List Str := ["world", "player", "ranks", "plan", "room", "step", "lower", "there"]
theorem sc_downwards : FnScope N_downwards ["world", "player", "ranks"] (defScope s_downwards) := ⟨rfl, rfl, rfl, by decide +kernel, rfl, by decide +kernel, by decide +kernel⟩
def t_downwards (K : PySem.W.Frag) : TS :=
  (tSeq (tAsg (tLst tNil) (gName 3))
  (tSeq (tFor (iRng1 (tCons (tCB (Evl.rLenS K) (tCons (tOp (rIxT K) (tVar 0) (tC (.int 0))) tNil)) tNil)) (gName 4) (tSeq (tAsg (tC .non) (gName 5))
  (tSeq (tIfS (tAnd (tTest (tOp rEq (tOp (rIxL K) (tOp (rIxT K) (tVar 0) (tC (.int 0))) (tVar 4)) (tVar 1))) (tAnd (tTest (tOp rNotN (tOp (rIxL K) (tVar 2) (tVar 4)) (tC .non))) (tTest (tOp rGt (tOp (rIxL K) (tVar 2) (tVar 4)) (tC (.int 0)))))) (tSeq (tAsg (tLc (iList K (tOp (rIxL K) (tOp (rIxT K) (tVar 0) (tC (.int 2))) (tVar 4))) (gName 7) (tAnd (tTest (tOp rNotN (tOp (rIxL K) (tVar 2) (tVar 7)) (tC .non))) (tTest (tOp rLt (tOp (rIxL K) (tVar 2) (tVar 7)) (tOp (rIxL K) (tVar 2) (tVar 4))))) (tVar 7) [7]) (gName 6))
  (tAsg (tOp (rIxL K) (tVar 6) (tC (.int 0))) (gName 5))) tNext)
  (tDrop (tBM K "list" rAppend (tVar 3) (tCons (tVar 5) tNil))))))
  (tRet (tVar 3))))
theorem der_downwards {P : Program} {w : World} {K : PySem.W.Frag} {mg : Str → Option Value} {base : Heap} (T : Txt K mg) {f : Addr} {cdv : Value} {A : Around} {outer : List Env} {s : Shared} {H : Hp} {E : XK} (hr : Room 0 (A.deeper (envOfC "downwards" (defScope s_downwards) s.heap.objs.size f cdv))) :
    PSs (cxOf CX0 P w K mg base N_downwards "downwards" (defScope s_downwards) f cdv A outer s H E).nox (defBody s_downwards) (t_downwards K) := by
  have nd : N_downwards.Nodup := sc_downwards.nd
  exact (pss_cons (ps_set (i := 3) nd rfl (Or.inl rfl) (pe_lst pa_nil))
      (pss_cons (ps_for PassesOwn.never rfl (pi_range1 (by rfl) T.range (pa_cons (pe_callB call_len_seq (by rfl) T.len PySem.boot_len (pa_cons (pe_ix ix_tup (pv 0) pe_int (fun _ _ => rfl)) pa_nil)) pa_nil)) (pg_name (i := 4) nd rfl (Or.inr rfl)) (pss_cons (ps_set (i := 5) nd rfl (Or.inl rfl) pe_non)
      (pss_cons (ps_if (PW.pt (pw_and (pt_cmpR op_eq (pe_ix ix_list (pe_ix ix_tup (pv 0) pe_int (fun _ _ => rfl)) (pv 4) (fun _ _ => rfl)) (pv 1) (nomark _)) (pw_and (pt_cmpR op_notN (pe_ix ix_list (pv 2) (pv 4) (fun _ _ => rfl)) pe_non (nomark _)) (pw_and1 (pt_cmpR op_gt (pe_ix ix_list (pv 2) (pv 4) (fun _ _ => rfl)) pe_int (nomark _)))))) (pss_cons (ps_setLc (i := 6) (own := [("there", 7)]) (g := gName 7) (tt := (tAnd (tTest (tOp rNotN (tOp (rIxL K) (tVar 2) (tVar 7)) (tC .non))) (tTest (tOp rLt (tOp (rIxL K) (tVar 2) (tVar 7)) (tOp (rIxL K) (tVar 2) (tVar 4)))))) rfl nd rfl rfl (sw_true rfl rfl rfl (by decide +kernel)) (pi_list (pe_ix ix_list (pe_ix ix_tup (pv 0) pe_int (fun _ _ => rfl)) (pv 4) (fun _ _ => rfl))) (blkOk_by (own := [("there", 7)]) (N := N_downwards) (by kernel_rfl)) (fun _ _ _ _ _ => pg_name (i := 7) nd rfl (Or.inl rfl)) (fun _ _ _ _ _ => (pts_one (PW.pt (pw_and (pt_cmpR op_notN (pe_ix ix_list (pv 2) (pv 7) (fun _ _ => rfl)) pe_non (nomark _)) (pw_and1 (pt_cmpR op_lt (pe_ix ix_list (pv 2) (pv 7) (fun _ _ => rfl)) (pe_ix ix_list (pv 2) (pv 4) (fun _ _ => rfl)) (nomark _))))))) (fun _ _ _ _ _ => (pv 7)))
      (pss_one (ps_set (i := 5) nd rfl (Or.inl rfl) (pe_ix ix_list (pv 6) pe_int (fun _ _ => rfl))))) pss_nil)
      (pss_one (ps_expr (pe_bm PySem.F.plainAttrs_list PySem.F.slot_list_append PySem.F.type_list_append mt_append (pv 3) (pa_cons (pv 5) pa_nil)))))))
      (pss_one (ps_ret (pv 3)))))
abbrev s_bring : Stmt := topS 39
abbrev N_bring : List Str := ["world", "player", "rooms", "ranks"]
theorem sc_bring : FnScope N_bring ["world", "player", "rooms"] (defScope s_bring) := ⟨rfl, rfl, rfl, by decide +kernel, rfl, by decide +kernel, by decide +kernel⟩
def t_bring (K : PySem.W.Frag) (sp_ask_game : Sp) (sp_brought : Sp) (sp_downwards : Sp) : TS :=
  (tSeq (tDrop (tCall sp_ask_game [] E0 (tCons (tVar 0) (tCons (tVar 1) (tCons (tVar 2) tNil)))))
  (tSeq (tAsg (tCall sp_brought [] E0 (tCons (tVar 0) (tCons (tVar 1) (tCons (tVar 2) (tCons (tLstRg (tRg1 (tCB (Evl.rLenS K) (tCons (tOp (rIxT K) (tVar 0) (tC (.int 0))) tNil)))) (tCons (tLst tNil) tNil)))))) (gName 3))
  (tRet (tTup (tCons (tVar 3) (tCons (tCall sp_downwards [] E0 (tCons (tVar 0) (tCons (tVar 1) (tCons (tVar 3) tNil)))) tNil))))))
theorem der_bring {P : Program} {w : World} {K : PySem.W.Frag} {mg : Str → Option Value} {base : Heap} (T : Txt K mg) {sp_ask_game : Sp} (D_ask_game : Dk P w K mg base "ask_game" ["world", "player", "rooms"] 5 sp_ask_game) {sp_brought : Sp} (D_brought : Dk P w K mg base "brought" ["world", "player", "rooms", "within", "had"] 2 sp_brought) {sp_downwards : Sp} (D_downwards : Dk P w K mg base "downwards" ["world", "player", "ranks"] 1 sp_downwards) {f : Addr} {cdv : Value} {A : Around} {outer : List Env} {s : Shared} {H : Hp} {E : XK} (hr : Room 5 (A.deeper (envOfC "bring" (defScope s_bring) s.heap.objs.size f cdv))) :
    PSs (cxOf CX0 P w K mg base N_bring "bring" (defScope s_bring) f cdv A outer s H E).nox (defBody s_bring) (t_bring K sp_ask_game sp_brought sp_downwards) := by
  have nd : N_bring.Nodup := sc_bring.nd
  exact (pss_cons (ps_expr (pe_dk D_ask_game hr (by rfl) (pa_cons (pv 0) (pa_cons (pv 1) (pa_cons (pv 2) pa_nil)))))
      (pss_cons (ps_set (i := 3) nd rfl (Or.inl rfl) (pe_dk D_brought (hr.mono (by decide)) (by rfl) (pa_cons (pv 0) (pa_cons (pv 1) (pa_cons (pv 2) (pa_cons (pe_listRg rfl (by rfl) T.list (prg_1 (by rfl) T.range (pe_callB call_len_seq (by rfl) T.len PySem.boot_len (pa_cons (pe_ix ix_tup (pv 0) pe_int (fun _ _ => rfl)) pa_nil)))) (pa_cons (pe_lst pa_nil) pa_nil)))))))
      (pss_one (ps_ret (pe_tup (pa_cons (pv 3) (pa_cons (pe_dk D_downwards (hr.mono (by decide)) (by rfl) (pa_cons (pv 0) (pa_cons (pv 1) (pa_cons (pv 3) pa_nil)))) pa_nil)))))))
abbrev s_beyond : Stmt := topS 52
abbrev N_beyond : List Str := ["world", "rooms", "room"]
theorem sc_beyond : FnScope N_beyond ["world", "rooms"] (defScope s_beyond) := ⟨rfl, rfl, rfl, by decide +kernel, rfl, by decide +kernel, by decide +kernel⟩
def t_beyond (K : PySem.W.Frag) : TS :=
  (tRet (tLc (iRng1 (tCons (tCB (Evl.rLenS K) (tCons (tOp (rIxT K) (tVar 0) (tC (.int 0))) tNil)) tNil)) (gName 2) (tTest (tOp (rIn K true) (tVar 2) (tVar 1))) (tVar 2) [2]))
theorem der_beyond {P : Program} {w : World} {K : PySem.W.Frag} {mg : Str → Option Value} {base : Heap} (T : Txt K mg) {f : Addr} {cdv : Value} {A : Around} {outer : List Env} {s : Shared} {H : Hp} {E : XK} (hr : Room 0 (A.deeper (envOfC "beyond" (defScope s_beyond) s.heap.objs.size f cdv))) :
    PSs (cxOf CX0 P w K mg base N_beyond "beyond" (defScope s_beyond) f cdv A outer s H E).nox (defBody s_beyond) (t_beyond K) := by
  have nd : N_beyond.Nodup := sc_beyond.nd
  exact (pss_one (ps_ret (pe_lc (own := [("room", 2)]) (g := gName 2) (tt := (tTest (tOp (rIn K true) (tVar 2) (tVar 1)))) rfl nd (pi_range1 (by rfl) T.range (pa_cons (pe_callB call_len_seq (by rfl) T.len PySem.boot_len (pa_cons (pe_ix ix_tup (pv 0) pe_int (fun _ _ => rfl)) pa_nil)) pa_nil)) (blkOk_by (own := [("room", 2)]) (N := N_beyond) (by kernel_rfl)) (fun _ _ _ _ _ => pg_name (i := 2) nd rfl (Or.inl rfl)) (fun _ _ _ _ _ => (pts_one (pt_cmpR op_notIn_seq (pv 2) (pv 1) (by rfl)))) (fun _ _ _ _ _ => (pv 2)))))
abbrev s_keep : Stmt := topS 53
abbrev N_keep : List Str := ["world", "player", "rooms", "ranks", "counter", "kept", "plan", "room", "step", "there"]
theorem sc_keep : FnScope N_keep ["world", "player", "rooms"] (defScope s_keep) := ⟨rfl, rfl, rfl, by decide +kernel, rfl, by decide +kernel, by decide +kernel⟩
def t_keep (K : PySem.W.Frag) (sp_ask_game : Sp) (sp_bring : Sp) (sp_beyond : Sp) : TS :=
  (tSeq (tDrop (tCall sp_ask_game [] E0 (tCons (tVar 0) (tCons (tVar 1) (tCons (tVar 2) tNil)))))
  (tSeq (tAsg (tCall sp_bring [] E0 (tCons (tVar 0) (tCons (tOp rMinus (tC (.int 1)) (tVar 1)) (tCons (tCall sp_beyond [] E0 (tCons (tVar 0) (tCons (tVar 2) tNil))) tNil)))) (gTup K 2 (gCons (gName 3) (gCons (gName 4) gNil))))
  (tSeq (tAsg (tLc (iRng1 (tCons (tCB (Evl.rLenS K) (tCons (tVar 3) tNil)) tNil)) (gName 7) (tTest (tOp rIsN (tOp (rIxL K) (tVar 3) (tVar 7)) (tC .non))) (tVar 7) [7]) (gName 5))
  (tSeq (tAsg (tLst tNil) (gName 6))
  (tSeq (tFor (iRng1 (tCons (tCB (Evl.rLenS K) (tCons (tOp (rIxT K) (tVar 0) (tC (.int 0))) tNil)) tNil)) (gName 7) (tSeq (tAsg (tC .non) (gName 8))
  (tSeq (tIfS (tAnd (tTest (tOp (rIn K false) (tVar 7) (tVar 5))) (tTest (tOp rEq (tOp (rIxL K) (tOp (rIxT K) (tVar 0) (tC (.int 0))) (tVar 7)) (tVar 1)))) (tAsg (tOp (rIxL K) (tLc (iList K (tOp (rIxL K) (tOp (rIxT K) (tVar 0) (tC (.int 2))) (tVar 7))) (gName 9) (tTest (tOp (rIn K false) (tVar 9) (tVar 5))) (tVar 9) [9]) (tC (.int 0))) (gName 8)) tNext)
  (tDrop (tBM K "list" rAppend (tVar 6) (tCons (tVar 8) tNil))))))
  (tRet (tTup (tCons (tVar 5) (tCons (tVar 6) (tCons (tVar 3) (tCons (tVar 4) tNil)))))))))))
theorem der_keep {P : Program} {w : World} {K : PySem.W.Frag} {mg : Str → Option Value} {base : Heap} (T : Txt K mg) {sp_ask_game : Sp} (D_ask_game : Dk P w K mg base "ask_game" ["world", "player", "rooms"] 5 sp_ask_game) {sp_bring : Sp} (D_bring : Dk P w K mg base "bring" ["world", "player", "rooms"] 6 sp_bring) {sp_beyond : Sp} (D_beyond : Dk P w K mg base "beyond" ["world", "rooms"] 1 sp_beyond) {f : Addr} {cdv : Value} {A : Around} {outer : List Env} {s : Shared} {H : Hp} {E : XK} (hr : Room 6 (A.deeper (envOfC "keep" (defScope s_keep) s.heap.objs.size f cdv))) :
    PSs (cxOf CX0 P w K mg base N_keep "keep" (defScope s_keep) f cdv A outer s H E).nox (defBody s_keep) (t_keep K sp_ask_game sp_bring sp_beyond) := by
  have nd : N_keep.Nodup := sc_keep.nd
  exact (pss_cons (ps_expr (pe_dk D_ask_game (hr.mono (by decide)) (by rfl) (pa_cons (pv 0) (pa_cons (pv 1) (pa_cons (pv 2) pa_nil)))))
      (pss_cons (ps_asg (pe_dk D_bring hr (by rfl) (pa_cons (pv 0) (pa_cons (pe_op op_sub pe_int (pv 1)) (pa_cons (pe_dk D_beyond (hr.mono (by decide)) (by rfl) (pa_cons (pv 0) (pa_cons (pv 2) pa_nil))) pa_nil)))) (pg_tup rfl (pgs_cons (pg_name (i := 3) nd rfl (Or.inr rfl)) (pgs_cons (pg_name (i := 4) nd rfl (Or.inl rfl)) pgs_nil))))
      (pss_cons (ps_set (i := 5) nd rfl (Or.inr rfl) (pe_lc (own := [("room", 7)]) (g := gName 7) (tt := (tTest (tOp rIsN (tOp (rIxL K) (tVar 3) (tVar 7)) (tC .non)))) rfl nd (pi_range1 (by rfl) T.range (pa_cons (pe_callB call_len_seq (by rfl) T.len PySem.boot_len (pa_cons (pv 3) pa_nil)) pa_nil)) (blkOk_by (own := [("room", 7)]) (N := N_keep) (by kernel_rfl)) (fun _ _ _ _ _ => pg_name (i := 7) nd rfl (Or.inl rfl)) (fun _ _ _ _ _ => (pts_one (pt_cmpR op_isN (pe_ix ix_list (pv 3) (pv 7) (fun _ _ => rfl)) pe_non (nomark _)))) (fun _ _ _ _ _ => (pv 7))))
      (pss_cons (ps_set (i := 6) nd rfl (Or.inl rfl) (pe_lst pa_nil))
      (pss_cons (ps_for PassesOwn.never rfl (pi_range1 (by rfl) T.range (pa_cons (pe_callB call_len_seq (by rfl) T.len PySem.boot_len (pa_cons (pe_ix ix_tup (pv 0) pe_int (fun _ _ => rfl)) pa_nil)) pa_nil)) (pg_name (i := 7) nd rfl (Or.inl rfl)) (pss_cons (ps_set (i := 8) nd rfl (Or.inl rfl) pe_non)
      (pss_cons (ps_if (PW.pt (pw_and (pt_cmpR op_in_seq (pv 7) (pv 5) (by rfl)) (pw_and1 (pt_cmpR op_eq (pe_ix ix_list (pe_ix ix_tup (pv 0) pe_int (fun _ _ => rfl)) (pv 7) (fun _ _ => rfl)) (pv 1) (nomark _))))) (pss_one (ps_set (i := 8) nd rfl (Or.inl rfl) (pe_ix ix_list (pe_lc (own := [("there", 9)]) (g := gName 9) (tt := (tTest (tOp (rIn K false) (tVar 9) (tVar 5)))) rfl nd (pi_list (pe_ix ix_list (pe_ix ix_tup (pv 0) pe_int (fun _ _ => rfl)) (pv 7) (fun _ _ => rfl))) (blkOk_by (own := [("there", 9)]) (N := N_keep) (by kernel_rfl)) (fun _ _ _ _ _ => pg_name (i := 9) nd rfl (Or.inl rfl)) (fun _ _ _ _ _ => (pts_one (pt_cmpR op_in_seq (pv 9) (pv 5) (by rfl)))) (fun _ _ _ _ _ => (pv 9))) pe_int (fun _ _ => rfl)))) pss_nil)
      (pss_one (ps_expr (pe_bm PySem.F.plainAttrs_list PySem.F.slot_list_append PySem.F.type_list_append mt_append (pv 6) (pa_cons (pv 8) pa_nil)))))))
      (pss_one (ps_ret (pe_tup (pa_cons (pv 5) (pa_cons (pv 6) (pa_cons (pv 3) (pa_cons (pv 4) pa_nil))))))))))))
abbrev s_shut_out : Stmt := topS 41
abbrev N_shut_out : List Str := ["world", "player", "rooms", "left", "ranks", "free", "gone", "room"]
theorem sc_shut_out : FnScope N_shut_out ["world", "player", "rooms", "left"] (defScope s_shut_out) := ⟨rfl, rfl, rfl, by decide +kernel, rfl, by decide +kernel, by decide +kernel⟩
def t_shut_out (K : PySem.W.Frag) (sp_brought : Sp) : TS :=
  (tSeq (tAsg (tCall sp_brought [] E0 (tCons (tVar 0) (tCons (tVar 1) (tCons (tVar 2) (tCons (tVar 3) (tCons (tLst tNil) tNil)))))) (gName 4))
  (tSeq (tAsg (tLc (iList K (tVar 3)) (gName 7) (tTest (tOp rIsN (tOp (rIxL K) (tVar 4) (tVar 7)) (tC .non))) (tVar 7) [7]) (gName 5))
  (tSeq (tAsg (tLc (iRng1 (tCons (tCB (Evl.rLenS K) (tCons (tOp (rIxT K) (tVar 0) (tC (.int 0))) tNil)) tNil)) (gName 7) (tTest (tOp (rIn K true) (tVar 7) (tVar 3))) (tVar 7) [7]) (gName 6))
  (tRet (tTup (tCons (tVar 4) (tCons (tCall sp_brought [] E0 (tCons (tVar 0) (tCons (tOp rMinus (tC (.int 1)) (tVar 1)) (tCons (tVar 5) (tCons (tVar 3) (tCons (tVar 6) tNil)))))) tNil)))))))
theorem der_shut_out {P : Program} {w : World} {K : PySem.W.Frag} {mg : Str → Option Value} {base : Heap} (T : Txt K mg) {sp_brought : Sp} (D_brought : Dk P w K mg base "brought" ["world", "player", "rooms", "within", "had"] 2 sp_brought) {f : Addr} {cdv : Value} {A : Around} {outer : List Env} {s : Shared} {H : Hp} {E : XK} (hr : Room 2 (A.deeper (envOfC "shut_out" (defScope s_shut_out) s.heap.objs.size f cdv))) :
    PSs (cxOf CX0 P w K mg base N_shut_out "shut_out" (defScope s_shut_out) f cdv A outer s H E).nox (defBody s_shut_out) (t_shut_out K sp_brought) := by
  have nd : N_shut_out.Nodup := sc_shut_out.nd
  exact (pss_cons (ps_set (i := 4) nd rfl (Or.inr rfl) (pe_dk D_brought hr (by rfl) (pa_cons (pv 0) (pa_cons (pv 1) (pa_cons (pv 2) (pa_cons (pv 3) (pa_cons (pe_lst pa_nil) pa_nil)))))))
      (pss_cons (ps_setLc (i := 5) (own := [("room", 7)]) (g := gName 7) (tt := (tTest (tOp rIsN (tOp (rIxL K) (tVar 4) (tVar 7)) (tC .non)))) rfl nd rfl rfl (sw_true rfl rfl rfl (by decide +kernel)) (pi_list (pv 3)) (blkOk_by (own := [("room", 7)]) (N := N_shut_out) (by kernel_rfl)) (fun _ _ _ _ _ => pg_name (i := 7) nd rfl (Or.inl rfl)) (fun _ _ _ _ _ => (pts_one (pt_cmpR op_isN (pe_ix ix_list (pv 4) (pv 7) (fun _ _ => rfl)) pe_non (nomark _)))) (fun _ _ _ _ _ => (pv 7)))
      (pss_cons (ps_setLc (i := 6) (own := [("room", 7)]) (g := gName 7) (tt := (tTest (tOp (rIn K true) (tVar 7) (tVar 3)))) rfl nd rfl rfl (sw_true rfl rfl rfl (by decide +kernel)) (pi_range1 (by rfl) T.range (pa_cons (pe_callB call_len_seq (by rfl) T.len PySem.boot_len (pa_cons (pe_ix ix_tup (pv 0) pe_int (fun _ _ => rfl)) pa_nil)) pa_nil)) (blkOk_by (own := [("room", 7)]) (N := N_shut_out) (by kernel_rfl)) (fun _ _ _ _ _ => pg_name (i := 7) nd rfl (Or.inl rfl)) (fun _ _ _ _ _ => (pts_one (pt_cmpR op_notIn_seq (pv 7) (pv 3) (by rfl)))) (fun _ _ _ _ _ => (pv 7)))
      (pss_one (ps_ret (pe_tup (pa_cons (pv 4) (pa_cons (pe_dk D_brought hr (by rfl) (pa_cons (pv 0) (pa_cons (pe_op op_sub pe_int (pv 1)) (pa_cons (pv 5) (pa_cons (pv 3) (pa_cons (pv 6) pa_nil)))))) pa_nil))))))))
abbrev s_plan_by : Stmt := topS 43
abbrev N_plan_by : List Str := ["world", "player", "ranks", "plan", "room", "step", "known", "lower", "there"]
theorem sc_plan_by : FnScope N_plan_by ["world", "player", "ranks"] (defScope s_plan_by) := ⟨rfl, rfl, rfl, by decide +kernel, rfl, by decide +kernel, by decide +kernel⟩
def t_plan_by (K : PySem.W.Frag) : TS :=
  (tSeq (tAsg (tLst tNil) (gName 3))
  (tSeq (tFor (iRng1 (tCons (tCB (Evl.rLenS K) (tCons (tOp (rIxT K) (tVar 0) (tC (.int 0))) tNil)) tNil)) (gName 4) (tSeq (tAsg (tC .non) (gName 5))
  (tSeq (tIfS (tAnd (tTest (tOp rEq (tOp (rIxL K) (tOp (rIxT K) (tVar 0) (tC (.int 0))) (tVar 4)) (tVar 1))) (tTest (tOp rNotN (tOp (rIxL K) (tVar 2) (tVar 4)) (tC .non)))) (tSeq (tAsg (tLc (iList K (tOp (rIxL K) (tOp (rIxT K) (tVar 0) (tC (.int 2))) (tVar 4))) (gName 8) (tTest (tOp rNotN (tOp (rIxL K) (tVar 2) (tVar 8)) (tC .non))) (tVar 8) [8]) (gName 6))
  (tSeq (tAsg (tLc (iList K (tVar 6)) (gName 8) (tOr (tTest (tOp rEq (tOp (rIxL K) (tVar 2) (tVar 4)) (tC (.int 0)))) (tTest (tOp rLt (tOp (rIxL K) (tVar 2) (tVar 8)) (tOp (rIxL K) (tVar 2) (tVar 4))))) (tVar 8) [8]) (gName 7))
  (tAsg (tOp (rIxL K) (tVar 7) (tC (.int 0))) (gName 5)))) tNext)
  (tDrop (tBM K "list" rAppend (tVar 3) (tCons (tVar 5) tNil))))))
  (tRet (tVar 3))))
theorem der_plan_by {P : Program} {w : World} {K : PySem.W.Frag} {mg : Str → Option Value} {base : Heap} (T : Txt K mg) {f : Addr} {cdv : Value} {A : Around} {outer : List Env} {s : Shared} {H : Hp} {E : XK} (hr : Room 0 (A.deeper (envOfC "plan_by" (defScope s_plan_by) s.heap.objs.size f cdv))) :
    PSs (cxOf CX0 P w K mg base N_plan_by "plan_by" (defScope s_plan_by) f cdv A outer s H E).nox (defBody s_plan_by) (t_plan_by K) := by
  have nd : N_plan_by.Nodup := sc_plan_by.nd
  exact (pss_cons (ps_set (i := 3) nd rfl (Or.inl rfl) (pe_lst pa_nil))
      (pss_cons (ps_for PassesOwn.never rfl (pi_range1 (by rfl) T.range (pa_cons (pe_callB call_len_seq (by rfl) T.len PySem.boot_len (pa_cons (pe_ix ix_tup (pv 0) pe_int (fun _ _ => rfl)) pa_nil)) pa_nil)) (pg_name (i := 4) nd rfl (Or.inr rfl)) (pss_cons (ps_set (i := 5) nd rfl (Or.inl rfl) pe_non)
      (pss_cons (ps_if (PW.pt (pw_and (pt_cmpR op_eq (pe_ix ix_list (pe_ix ix_tup (pv 0) pe_int (fun _ _ => rfl)) (pv 4) (fun _ _ => rfl)) (pv 1) (nomark _)) (pw_and1 (pt_cmpR op_notN (pe_ix ix_list (pv 2) (pv 4) (fun _ _ => rfl)) pe_non (nomark _))))) (pss_cons (ps_setLc (i := 6) (own := [("there", 8)]) (g := gName 8) (tt := (tTest (tOp rNotN (tOp (rIxL K) (tVar 2) (tVar 8)) (tC .non)))) rfl nd rfl rfl (sw_true rfl rfl rfl (by decide +kernel)) (pi_list (pe_ix ix_list (pe_ix ix_tup (pv 0) pe_int (fun _ _ => rfl)) (pv 4) (fun _ _ => rfl))) (blkOk_by (own := [("there", 8)]) (N := N_plan_by) (by kernel_rfl)) (fun _ _ _ _ _ => pg_name (i := 8) nd rfl (Or.inl rfl)) (fun _ _ _ _ _ => (pts_one (pt_cmpR op_notN (pe_ix ix_list (pv 2) (pv 8) (fun _ _ => rfl)) pe_non (nomark _)))) (fun _ _ _ _ _ => (pv 8)))
      (pss_cons (ps_setLc (i := 7) (own := [("there", 8)]) (g := gName 8) (tt := (tOr (tTest (tOp rEq (tOp (rIxL K) (tVar 2) (tVar 4)) (tC (.int 0)))) (tTest (tOp rLt (tOp (rIxL K) (tVar 2) (tVar 8)) (tOp (rIxL K) (tVar 2) (tVar 4)))))) rfl nd rfl rfl (sw_true rfl rfl rfl (by decide +kernel)) (pi_list (pv 6)) (blkOk_by (own := [("there", 8)]) (N := N_plan_by) (by kernel_rfl)) (fun _ _ _ _ _ => pg_name (i := 8) nd rfl (Or.inl rfl)) (fun _ _ _ _ _ => (pts_one (PW.pt (pw_or (pt_cmpR op_eq (pe_ix ix_list (pv 2) (pv 4) (fun _ _ => rfl)) pe_int (nomark _)) (pw_or1 (pt_cmpR op_lt (pe_ix ix_list (pv 2) (pv 8) (fun _ _ => rfl)) (pe_ix ix_list (pv 2) (pv 4) (fun _ _ => rfl)) (nomark _))))))) (fun _ _ _ _ _ => (pv 8)))
      (pss_one (ps_set (i := 5) nd rfl (Or.inl rfl) (pe_ix ix_list (pv 7) pe_int (fun _ _ => rfl)))))) pss_nil)
      (pss_one (ps_expr (pe_bm PySem.F.plainAttrs_list PySem.F.slot_list_append PySem.F.type_list_append mt_append (pv 3) (pa_cons (pv 5) pa_nil)))))))
      (pss_one (ps_ret (pv 3)))))
abbrev s_turned_to : Stmt := topS 44
abbrev N_turned_to : List Str := ["turns", "there", "room"]
theorem sc_turned_to : FnScope N_turned_to ["turns", "there", "room"] (defScope s_turned_to) := ⟨rfl, rfl, rfl, by decide +kernel, rfl, by decide +kernel, by decide +kernel⟩
def t_turned_to (K : PySem.W.Frag) : TS :=
  (tSeq (tIfS (tTest (tOp rIsN (tOp (rIxL K) (tVar 0) (tVar 1)) (tC .non))) (tRet (tC (.bl false))) tNext)
  (tSeq (tIfS (tTest (tOp rNe (tOp (rIxT K) (tOp (rIxL K) (tVar 0) (tVar 1)) (tC (.int 0))) (tOp (rIxT K) (tOp (rIxL K) (tVar 0) (tVar 2)) (tC (.int 0))))) (tRet (tOp rLt (tOp (rIxT K) (tOp (rIxL K) (tVar 0) (tVar 1)) (tC (.int 0))) (tOp (rIxT K) (tOp (rIxL K) (tVar 0) (tVar 2)) (tC (.int 0))))) tNext)
  (tRet (tOrV (tOp rLt (tOp (rIxT K) (tOp (rIxL K) (tVar 0) (tVar 1)) (tC (.int 1))) (tOp (rIxT K) (tOp (rIxL K) (tVar 0) (tVar 2)) (tC (.int 1)))) (tAndV (tOp rEq (tOp (rIxT K) (tOp (rIxL K) (tVar 0) (tVar 2)) (tC (.int 1))) (tC (.int 0))) (tOp rEq (tOp (rIxT K) (tOp (rIxL K) (tVar 0) (tVar 1)) (tC (.int 1))) (tC (.int 0))))))))
theorem der_turned_to {P : Program} {w : World} {K : PySem.W.Frag} {mg : Str → Option Value} {base : Heap} (T : Txt K mg) {f : Addr} {cdv : Value} {A : Around} {outer : List Env} {s : Shared} {H : Hp} {E : XK} (hr : Room 0 (A.deeper (envOfC "turned_to" (defScope s_turned_to) s.heap.objs.size f cdv))) :
    PSs (cxOf CX0 P w K mg base N_turned_to "turned_to" (defScope s_turned_to) f cdv A outer s H E).nox (defBody s_turned_to) (t_turned_to K) := by
  have nd : N_turned_to.Nodup := sc_turned_to.nd
  exact (pss_cons (ps_if (pt_cmpR op_isN (pe_ix ix_list (pv 0) (pv 1) (fun _ _ => rfl)) pe_non (nomark _)) (pss_one (ps_ret pe_bl)) pss_nil)
      (pss_cons (ps_if (pt_cmpR op_ne (pe_ix ix_tup (pe_ix ix_list (pv 0) (pv 1) (fun _ _ => rfl)) pe_int (fun _ _ => rfl)) (pe_ix ix_tup (pe_ix ix_list (pv 0) (pv 2) (fun _ _ => rfl)) pe_int (fun _ _ => rfl)) (nomark _)) (pss_one (ps_ret (pe_cmpR op_lt (pe_ix ix_tup (pe_ix ix_list (pv 0) (pv 1) (fun _ _ => rfl)) pe_int (fun _ _ => rfl)) (pe_ix ix_tup (pe_ix ix_list (pv 0) (pv 2) (fun _ _ => rfl)) pe_int (fun _ _ => rfl)) (nomark _)))) pss_nil)
      (pss_one (ps_ret (pe_or (pe_cmpR op_lt (pe_ix ix_tup (pe_ix ix_list (pv 0) (pv 1) (fun _ _ => rfl)) pe_int (fun _ _ => rfl)) (pe_ix ix_tup (pe_ix ix_list (pv 0) (pv 2) (fun _ _ => rfl)) pe_int (fun _ _ => rfl)) (nomark _)) (pe_one (pe_and (pe_cmpR op_eq (pe_ix ix_tup (pe_ix ix_list (pv 0) (pv 2) (fun _ _ => rfl)) pe_int (fun _ _ => rfl)) pe_int (nomark _)) (pe_one (pe_cmpR op_eq (pe_ix ix_tup (pe_ix ix_list (pv 0) (pv 1) (fun _ _ => rfl)) pe_int (fun _ _ => rfl)) pe_int (nomark _))))))))))
abbrev s_counter_by : Stmt := topS 45
abbrev N_counter_by : List Str := ["world", "other", "turns", "plan", "room", "step", "there"]
theorem sc_counter_by : FnScope N_counter_by ["world", "other", "turns"] (defScope s_counter_by) := ⟨rfl, rfl, rfl, by decide +kernel, rfl, by decide +kernel, by decide +kernel⟩
def t_counter_by (K : PySem.W.Frag) (sp_turned_to : Sp) : TS :=
  (tSeq (tAsg (tLst tNil) (gName 3))
  (tSeq (tFor (iRng1 (tCons (tCB (Evl.rLenS K) (tCons (tOp (rIxT K) (tVar 0) (tC (.int 0))) tNil)) tNil)) (gName 4) (tSeq (tAsg (tC .non) (gName 5))
  (tSeq (tIfS (tAnd (tTest (tOp rEq (tOp (rIxL K) (tOp (rIxT K) (tVar 0) (tC (.int 0))) (tVar 4)) (tVar 1))) (tTest (tOp rNotN (tOp (rIxL K) (tVar 2) (tVar 4)) (tC .non)))) (tAsg (tOp (rIxL K) (tLc (iList K (tOp (rIxL K) (tOp (rIxT K) (tVar 0) (tC (.int 2))) (tVar 4))) (gName 6) (tB (tCall sp_turned_to [] E0 (tCons (tVar 2) (tCons (tVar 6) (tCons (tVar 4) tNil))))) (tVar 6) [6]) (tC (.int 0))) (gName 5)) tNext)
  (tDrop (tBM K "list" rAppend (tVar 3) (tCons (tVar 5) tNil))))))
  (tRet (tVar 3))))
theorem der_counter_by {P : Program} {w : World} {K : PySem.W.Frag} {mg : Str → Option Value} {base : Heap} (T : Txt K mg) {sp_turned_to : Sp} (D_turned_to : Dk P w K mg base "turned_to" ["turns", "there", "room"] 1 sp_turned_to) {f : Addr} {cdv : Value} {A : Around} {outer : List Env} {s : Shared} {H : Hp} {E : XK} (hr : Room 1 (A.deeper (envOfC "counter_by" (defScope s_counter_by) s.heap.objs.size f cdv))) :
    PSs (cxOf CX0 P w K mg base N_counter_by "counter_by" (defScope s_counter_by) f cdv A outer s H E).nox (defBody s_counter_by) (t_counter_by K sp_turned_to) := by
  have nd : N_counter_by.Nodup := sc_counter_by.nd
  exact (pss_cons (ps_set (i := 3) nd rfl (Or.inl rfl) (pe_lst pa_nil))
      (pss_cons (ps_for PassesOwn.never rfl (pi_range1 (by rfl) T.range (pa_cons (pe_callB call_len_seq (by rfl) T.len PySem.boot_len (pa_cons (pe_ix ix_tup (pv 0) pe_int (fun _ _ => rfl)) pa_nil)) pa_nil)) (pg_name (i := 4) nd rfl (Or.inr rfl)) (pss_cons (ps_set (i := 5) nd rfl (Or.inl rfl) pe_non)
      (pss_cons (ps_if (PW.pt (pw_and (pt_cmpR op_eq (pe_ix ix_list (pe_ix ix_tup (pv 0) pe_int (fun _ _ => rfl)) (pv 4) (fun _ _ => rfl)) (pv 1) (nomark _)) (pw_and1 (pt_cmpR op_notN (pe_ix ix_list (pv 2) (pv 4) (fun _ _ => rfl)) pe_non (nomark _))))) (pss_one (ps_set (i := 5) nd rfl (Or.inl rfl) (pe_ix ix_list (pe_lc (own := [("there", 6)]) (g := gName 6) (tt := (tB (tCall sp_turned_to [] E0 (tCons (tVar 2) (tCons (tVar 6) (tCons (tVar 4) tNil)))))) rfl nd (pi_list (pe_ix ix_list (pe_ix ix_tup (pv 0) pe_int (fun _ _ => rfl)) (pv 4) (fun _ _ => rfl))) (blkOk_by (own := [("there", 6)]) (N := N_counter_by) (by kernel_rfl)) (fun _ _ _ _ _ => pg_name (i := 6) nd rfl (Or.inl rfl)) (fun _ _ _ _ _ => (pts_one (pt_val (pe_dk D_turned_to hr (by rfl) (pa_cons (pv 2) (pa_cons (pv 6) (pa_cons (pv 4) pa_nil))))))) (fun _ _ _ _ _ => (pv 6))) pe_int (fun _ _ => rfl)))) pss_nil)
      (pss_one (ps_expr (pe_bm PySem.F.plainAttrs_list PySem.F.slot_list_append PySem.F.type_list_append mt_append (pv 3) (pa_cons (pv 5) pa_nil)))))))
      (pss_one (ps_ret (pv 3)))))
abbrev s_again : Stmt := topS 42
abbrev N_again : List Str := ["world", "player", "rooms", "left", "turns", "turn", "more", "ranks", "lost", "room"]
theorem sc_again : FnScope N_again ["world", "player", "rooms"] (defScope s_again) := ⟨rfl, rfl, rfl, by decide +kernel, rfl, by decide +kernel, by decide +kernel⟩
def t_again (K : PySem.W.Frag) (sp_ask_game : Sp) (sp_shut_out : Sp) (sp_plan_by : Sp) (sp_counter_by : Sp) : TS :=
  (tSeq (tDrop (tCall sp_ask_game [] E0 (tCons (tVar 0) (tCons (tVar 1) (tCons (tVar 2) tNil)))))
  (tSeq (tAsg (tLstRg (tRg1 (tCB (Evl.rLenS K) (tCons (tOp (rIxT K) (tVar 0) (tC (.int 0))) tNil)))) (gName 3))
  (tSeq (tAsg (tLc (iList K (tVar 3)) (gName 9) tYes (tC .non) [9]) (gName 4))
  (tSeq (tAsg (tC (.int 0)) (gName 5))
  (tSeq (tAsg (tC (.bl true)) (gName 6))
  (tSeq (tWhile (tB (tVar 6)) (tSeq (tAsg (tCall sp_shut_out [] E0 (tCons (tVar 0) (tCons (tVar 1) (tCons (tVar 2) (tCons (tVar 3) tNil))))) (gTup K 2 (gCons (gName 7) (gCons (gName 8) gNil))))
  (tSeq (tFor (iList K (tVar 3)) (gName 9) (tIfS (tTest (tOp rNotN (tOp (rIxL K) (tVar 8) (tVar 9)) (tC .non))) (tAsg (tTup (tCons (tVar 5) (tCons (tOp (rIxL K) (tVar 8) (tVar 9)) tNil))) (gSub (tVar 4) (tVar 9) rSetL)) tNext))
  (tSeq (tAsg (tLc (iList K (tVar 3)) (gName 9) (tTest (tOp rIsN (tOp (rIxL K) (tVar 4) (tVar 9)) (tC .non))) (tVar 9) [9]) (gName 3))
  (tSeq (tAsg (tOp rGt (tCB (Evl.rLenS K) (tCons (tLc (iList K (tVar 8)) (gName 9) (tTest (tOp rNotN (tVar 9) (tC .non))) (tVar 9) [9]) tNil)) (tC (.int 0))) (gName 6))
  (tAsg (tOp rPlus (tVar 5) (tC (.int 1))) (gName 5)))))))
  (tRet (tTup (tCons (tVar 7) (tCons (tCall sp_plan_by [] E0 (tCons (tVar 0) (tCons (tVar 1) (tCons (tVar 7) tNil)))) (tCons (tVar 4) (tCons (tCall sp_counter_by [] E0 (tCons (tVar 0) (tCons (tOp rMinus (tC (.int 1)) (tVar 1)) (tCons (tVar 4) tNil)))) tNil))))))))))))
theorem der_again {P : Program} {w : World} {K : PySem.W.Frag} {mg : Str → Option Value} {base : Heap} (T : Txt K mg) {sp_ask_game : Sp} (D_ask_game : Dk P w K mg base "ask_game" ["world", "player", "rooms"] 5 sp_ask_game) {sp_shut_out : Sp} (D_shut_out : Dk P w K mg base "shut_out" ["world", "player", "rooms", "left"] 3 sp_shut_out) {sp_plan_by : Sp} (D_plan_by : Dk P w K mg base "plan_by" ["world", "player", "ranks"] 1 sp_plan_by) {sp_counter_by : Sp} (D_counter_by : Dk P w K mg base "counter_by" ["world", "other", "turns"] 2 sp_counter_by) {f : Addr} {cdv : Value} {A : Around} {outer : List Env} {s : Shared} {H : Hp} {E : XK} (hr : Room 5 (A.deeper (envOfC "again" (defScope s_again) s.heap.objs.size f cdv))) :
    PSs (cxOf CX0 P w K mg base N_again "again" (defScope s_again) f cdv A outer s H E).nox (defBody s_again) (t_again K sp_ask_game sp_shut_out sp_plan_by sp_counter_by) := by
  have nd : N_again.Nodup := sc_again.nd
  exact (pss_cons (ps_expr (pe_dk D_ask_game hr (by rfl) (pa_cons (pv 0) (pa_cons (pv 1) (pa_cons (pv 2) pa_nil)))))
      (pss_cons (ps_set (i := 3) nd rfl (Or.inl rfl) (pe_listRg rfl (by rfl) T.list (prg_1 (by rfl) T.range (pe_callB call_len_seq (by rfl) T.len PySem.boot_len (pa_cons (pe_ix ix_tup (pv 0) pe_int (fun _ _ => rfl)) pa_nil)))))
      (pss_cons (ps_set (i := 4) nd rfl (Or.inr rfl) (pe_lc (own := [("room", 9)]) (g := gName 9) (tt := tYes) rfl nd (pi_list (pv 3)) (blkOk_by (own := [("room", 9)]) (N := N_again) (by kernel_rfl)) (fun _ _ _ _ _ => pg_name (i := 9) nd rfl (Or.inl rfl)) (fun _ _ _ _ _ => pts_nil) (fun _ _ _ _ _ => pe_non)))
      (pss_cons (ps_set (i := 5) nd rfl (Or.inl rfl) pe_int)
      (pss_cons (ps_set (i := 6) nd rfl (Or.inl rfl) pe_bl)
      (pss_cons (ps_while PassesOwn.never (pt_val (pv 6)) (pss_cons (ps_asg (pe_dk D_shut_out (hr.mono (by decide)) (by rfl) (pa_cons (pv 0) (pa_cons (pv 1) (pa_cons (pv 2) (pa_cons (pv 3) pa_nil))))) (pg_tup rfl (pgs_cons (pg_name (i := 7) nd rfl (Or.inl rfl)) (pgs_cons (pg_name (i := 8) nd rfl (Or.inl rfl)) pgs_nil))))
      (pss_cons (ps_for PassesOwn.never rfl (pi_list (pv 3)) (pg_name (i := 9) nd rfl (Or.inl rfl)) (pss_one (ps_if (pt_cmpR op_notN (pe_ix ix_list (pv 8) (pv 9) (fun _ _ => rfl)) pe_non (nomark _)) (pss_one (ps_asg (pe_tup (pa_cons (pv 5) (pa_cons (pe_ix ix_list (pv 8) (pv 9) (fun _ _ => rfl)) pa_nil))) (pg_sub (pv 4) (pv 9) set_list))) pss_nil)))
      (pss_cons (ps_setLc (i := 3) (own := [("room", 9)]) (g := gName 9) (tt := (tTest (tOp rIsN (tOp (rIxL K) (tVar 4) (tVar 9)) (tC .non)))) rfl nd rfl rfl (sw_true rfl rfl rfl (by decide +kernel)) (pi_list (pv 3)) (blkOk_by (own := [("room", 9)]) (N := N_again) (by kernel_rfl)) (fun _ _ _ _ _ => pg_name (i := 9) nd rfl (Or.inl rfl)) (fun _ _ _ _ _ => (pts_one (pt_cmpR op_isN (pe_ix ix_list (pv 4) (pv 9) (fun _ _ => rfl)) pe_non (nomark _)))) (fun _ _ _ _ _ => (pv 9)))
      (pss_cons (ps_set (i := 6) nd rfl (Or.inl rfl) (pe_cmpR op_gt (pe_callB call_len_seq (by rfl) T.len PySem.boot_len (pa_cons (pe_lc (own := [("room", 9)]) (g := gName 9) (tt := (tTest (tOp rNotN (tVar 9) (tC .non)))) rfl nd (pi_list (pv 8)) (blkOk_by (own := [("room", 9)]) (N := N_again) (by kernel_rfl)) (fun _ _ _ _ _ => pg_name (i := 9) nd rfl (Or.inl rfl)) (fun _ _ _ _ _ => (pts_one (pt_cmpR op_notN (pv 9) pe_non (nomark _)))) (fun _ _ _ _ _ => (pv 9))) pa_nil)) pe_int (nomark _)))
      (pss_one (ps_set (i := 5) nd rfl (Or.inl rfl) (pe_op op_add (pv 5) pe_int))))))))
      (pss_one (ps_ret (pe_tup (pa_cons (pv 7) (pa_cons (pe_dk D_plan_by (hr.mono (by decide)) (by rfl) (pa_cons (pv 0) (pa_cons (pv 1) (pa_cons (pv 7) pa_nil)))) (pa_cons (pv 4) (pa_cons (pe_dk D_counter_by (hr.mono (by decide)) (by rfl) (pa_cons (pv 0) (pa_cons (pe_op op_sub pe_int (pv 1)) (pa_cons (pv 4) pa_nil)))) pa_nil)))))))))))))
abbrev s_is_way : Stmt := topS 47
abbrev N_is_way : List Str := ["world", "way", "front", "ring", "rooms", "room", "there"]
theorem sc_is_way : FnScope N_is_way ["world", "way"] (defScope s_is_way) := ⟨rfl, rfl, rfl, by decide +kernel, rfl, by decide +kernel, by decide +kernel⟩
def t_is_way (K : PySem.W.Frag) (sp_ask_world : Sp) : TS :=
  (tSeq (tDrop (tCall sp_ask_world [] E0 (tCons (tVar 0) tNil)))
  (tSeq (tAsg (tVar 1) (gTup K 2 (gCons (gName 2) (gCons (gName 3) gNil))))
  (tSeq (tAsg (tOp rCat (tVar 2) (tVar 3)) (gName 4))
  (tSeq (tIfS (tOr (tTest (tOp rEq (tCB (Evl.rLenS K) (tCons (tVar 3) tNil)) (tC (.int 0)))) (tNot (tB (tCB (rAll K) (tCons (tLc (iList K (tVar 4)) (gName 5) tYes (tChain rLe rLt (tC (.int 0)) (tVar 5) (tCB (Evl.rLenS K) (tCons (tOp (rIxT K) (tVar 0) (tC (.int 0))) tNil))) [5]) tNil))))) (tRet (tC (.bl false))) tNext)
  (tSeq (tFor (iZip K (tCons (tVar 4) (tCons (tOp rCat (tSl (rSlL K) (tVar 4) (tPart (tC (.int 1))) tNoPart) (tSl (rSlL K) (tVar 3) tNoPart (tPart (tC (.int 1))))) tNil))) (gTup K 2 (gCons (gName 5) (gCons (gName 6) gNil))) (tIfS (tTest (tOp (rIn K true) (tVar 6) (tOp (rIxL K) (tOp (rIxT K) (tVar 0) (tC (.int 2))) (tVar 5)))) (tRet (tC (.bl false))) tNext))
  (tRet (tC (.bl true))))))))
theorem der_is_way {P : Program} {w : World} {K : PySem.W.Frag} {mg : Str → Option Value} {base : Heap} (T : Txt K mg) {sp_ask_world : Sp} (D_ask_world : Dk P w K mg base "ask_world" ["world"] 4 sp_ask_world) {f : Addr} {cdv : Value} {A : Around} {outer : List Env} {s : Shared} {H : Hp} {E : XK} (hr : Room 4 (A.deeper (envOfC "is_way" (defScope s_is_way) s.heap.objs.size f cdv))) :
    PSs (cxOf CX0 P w K mg base N_is_way "is_way" (defScope s_is_way) f cdv A outer s H E).nox (defBody s_is_way) (t_is_way K sp_ask_world) := by
  have nd : N_is_way.Nodup := sc_is_way.nd
  exact (pss_cons (ps_expr (pe_dk D_ask_world hr (by rfl) (pa_cons (pv 0) pa_nil)))
      (pss_cons (ps_asg (pv 1) (pg_tup rfl (pgs_cons (pg_name (i := 2) nd rfl (Or.inl rfl)) (pgs_cons (pg_name (i := 3) nd rfl (Or.inl rfl)) pgs_nil))))
      (pss_cons (ps_set (i := 4) nd rfl (Or.inl rfl) (pe_op op_cat (pv 2) (pv 3)))
      (pss_cons (ps_if (PW.pt (pw_or (pt_cmpR op_eq (pe_callB call_len_seq (by rfl) T.len PySem.boot_len (pa_cons (pv 3) pa_nil)) pe_int (nomark _)) (pw_or1 (pt_not (pt_val (pe_callB (cr_all rfl) (by rfl) T.all (by decide +kernel) (pa_cons (pe_lc (own := [("room", 5)]) (g := gName 5) (tt := tYes) rfl nd (pi_list (pv 4)) (blkOk_by (own := [("room", 5)]) (N := N_is_way) (by kernel_rfl)) (fun _ _ _ _ _ => pg_name (i := 5) nd rfl (Or.inl rfl)) (fun _ _ _ _ _ => pts_nil) (fun _ _ _ _ _ => (pe_chain op_le op_lt pe_int (pv 5) (pe_callB call_len_seq (by rfl) T.len PySem.boot_len (pa_cons (pe_ix ix_tup (pv 0) pe_int (fun _ _ => rfl)) pa_nil))))) pa_nil))))))) (pss_one (ps_ret pe_bl)) pss_nil)
      (pss_cons (ps_for PassesOwn.never rfl (pi_zip (by rfl) T.zip (pa_cons (pv 4) (pa_cons (pe_op op_cat (pe_slice sl_list (pv 4) (po_some pe_int) po_none) (pe_slice sl_list (pv 3) po_none (po_some pe_int))) pa_nil))) (pg_tup rfl (pgs_cons (pg_name (i := 5) nd rfl (Or.inl rfl)) (pgs_cons (pg_name (i := 6) nd rfl (Or.inl rfl)) pgs_nil))) (pss_one (ps_if (pt_cmpR op_notIn_seq (pv 6) (pe_ix ix_list (pe_ix ix_tup (pv 0) pe_int (fun _ _ => rfl)) (pv 5) (fun _ _ => rfl)) (by rfl)) (pss_one (ps_ret pe_bl)) pss_nil)))
      (pss_one (ps_ret pe_bl)))))))
abbrev s_ask_way : Stmt := topS 48
abbrev N_ask_way : List Str := ["world", "way"]
theorem sc_ask_way : FnScope N_ask_way ["world", "way"] (defScope s_ask_way) := ⟨rfl, rfl, rfl, by decide +kernel, rfl, by decide +kernel, by decide +kernel⟩
def t_ask_way (K : PySem.W.Frag) (sp_is_way : Sp) : TS :=
  (tIfS (tNot (tB (tCall sp_is_way [] E0 (tCons (tVar 0) (tCons (tVar 1) tNil))))) tNever tNext)
theorem der_ask_way {P : Program} {w : World} {K : PySem.W.Frag} {mg : Str → Option Value} {base : Heap} (T : Txt K mg) {sp_is_way : Sp} (D_is_way : Dk P w K mg base "is_way" ["world", "way"] 5 sp_is_way) {f : Addr} {cdv : Value} {A : Around} {outer : List Env} {s : Shared} {H : Hp} {E : XK} (hr : Room 5 (A.deeper (envOfC "ask_way" (defScope s_ask_way) s.heap.objs.size f cdv))) :
    PSs (cxOf CX0 P w K mg base N_ask_way "ask_way" (defScope s_ask_way) f cdv A outer s H E).nox (defBody s_ask_way) (t_ask_way K sp_is_way) := by
  have nd : N_ask_way.Nodup := sc_ask_way.nd
  exact (pss_one (ps_if (pt_not (pt_val (pe_dk D_is_way hr (by rfl) (pa_cons (pv 0) (pa_cons (pv 1) pa_nil))))) (pss_one ps_never) pss_nil))
abbrev s_way_is_fair : Stmt := topS 50
abbrev N_way_is_fair : List Str := ["world", "rooms", "marks", "way", "room", "mark"]
theorem sc_way_is_fair : FnScope N_way_is_fair ["world", "rooms", "marks", "way"] (defScope s_way_is_fair) := ⟨rfl, rfl, rfl, by decide +kernel, rfl, by decide +kernel, by decide +kernel⟩
def t_way_is_fair (K : PySem.W.Frag) (sp_ask_fair : Sp) (sp_ask_way : Sp) : TS :=
  (tSeq (tDrop (tCall sp_ask_fair [] E0 (tCons (tVar 0) (tCons (tVar 1) (tCons (tVar 2) tNil)))))
  (tSeq (tDrop (tCall sp_ask_way [] E0 (tCons (tVar 0) (tCons (tVar 3) tNil))))
  (tSeq (tIfS (tNot (tB (tCB (rAll K) (tCons (tLc (iList K (tOp rCat (tOp (rIxT K) (tVar 3) (tC (.int 0))) (tOp (rIxT K) (tVar 3) (tC (.int 1))))) (gName 4) tYes (tOp (rIn K false) (tVar 4) (tVar 1)) [4]) tNil)))) (tRet (tC (.bl false))) tNext)
  (tRet (tCB (rAll K) (tCons (tLc (iList K (tVar 2)) (gName 5) tYes (tOp rGt (tCB (Evl.rLenS K) (tCons (tLc (iList K (tOp (rIxT K) (tVar 3) (tC (.int 1)))) (gName 4) (tTest (tOp (rIn K false) (tVar 5) (tOp (rIxL K) (tOp (rIxT K) (tVar 0) (tC (.int 1))) (tVar 4)))) (tVar 4) [4]) tNil)) (tC (.int 0))) [5]) tNil))))))
theorem der_way_is_fair {P : Program} {w : World} {K : PySem.W.Frag} {mg : Str → Option Value} {base : Heap} (T : Txt K mg) {sp_ask_fair : Sp} (D_ask_fair : Dk P w K mg base "ask_fair" ["world", "rooms", "marks"] 5 sp_ask_fair) {sp_ask_way : Sp} (D_ask_way : Dk P w K mg base "ask_way" ["world", "way"] 6 sp_ask_way) {f : Addr} {cdv : Value} {A : Around} {outer : List Env} {s : Shared} {H : Hp} {E : XK} (hr : Room 6 (A.deeper (envOfC "way_is_fair" (defScope s_way_is_fair) s.heap.objs.size f cdv))) :
    PSs (cxOf CX0 P w K mg base N_way_is_fair "way_is_fair" (defScope s_way_is_fair) f cdv A outer s H E).nox (defBody s_way_is_fair) (t_way_is_fair K sp_ask_fair sp_ask_way) := by
  have nd : N_way_is_fair.Nodup := sc_way_is_fair.nd
  exact (pss_cons (ps_expr (pe_dk D_ask_fair (hr.mono (by decide)) (by rfl) (pa_cons (pv 0) (pa_cons (pv 1) (pa_cons (pv 2) pa_nil)))))
      (pss_cons (ps_expr (pe_dk D_ask_way hr (by rfl) (pa_cons (pv 0) (pa_cons (pv 3) pa_nil))))
      (pss_cons (ps_if (pt_not (pt_val (pe_callB (cr_all rfl) (by rfl) T.all (by decide +kernel) (pa_cons (pe_lc (own := [("room", 4)]) (g := gName 4) (tt := tYes) rfl nd (pi_list (pe_op op_cat (pe_ix ix_tup (pv 3) pe_int (fun _ _ => rfl)) (pe_ix ix_tup (pv 3) pe_int (fun _ _ => rfl)))) (blkOk_by (own := [("room", 4)]) (N := N_way_is_fair) (by kernel_rfl)) (fun _ _ _ _ _ => pg_name (i := 4) nd rfl (Or.inl rfl)) (fun _ _ _ _ _ => pts_nil) (fun _ _ _ _ _ => (pe_cmpR op_in_seq (pv 4) (pv 1) (by rfl)))) pa_nil)))) (pss_one (ps_ret pe_bl)) pss_nil)
      (pss_one (ps_ret (pe_callB (cr_all rfl) (by rfl) T.all (by decide +kernel) (pa_cons (pe_lc (own := [("mark", 5)]) (g := gName 5) (tt := tYes) rfl nd (pi_list (pv 2)) (blkOk_by (own := [("mark", 5)]) (N := N_way_is_fair) (by kernel_rfl)) (fun _ _ _ _ _ => pg_name (i := 5) nd rfl (Or.inr rfl)) (fun _ _ _ _ _ => pts_nil) (fun _ _ _ _ _ => (pe_cmpR op_gt (pe_callB call_len_seq (by rfl) T.len PySem.boot_len (pa_cons (pe_lc (own := [("room", 4)]) (g := gName 4) (tt := (tTest (tOp (rIn K false) (tVar 5) (tOp (rIxL K) (tOp (rIxT K) (tVar 0) (tC (.int 1))) (tVar 4))))) rfl nd (pi_list (pe_ix ix_tup (pv 3) pe_int (fun _ _ => rfl))) (blkOk_by (own := [("room", 4)]) (N := N_way_is_fair) (by kernel_rfl)) (fun _ _ _ _ _ => pg_name (i := 4) nd rfl (Or.inl rfl)) (fun _ _ _ _ _ => (pts_one (pt_cmpR op_in_seq (pv 5) (pe_ix ix_list (pe_ix ix_tup (pv 0) pe_int (fun _ _ => rfl)) (pv 4) (fun _ _ => rfl)) (by rfl)))) (fun _ _ _ _ _ => (pv 4))) pa_nil)) pe_int (nomark _)))) pa_nil)))))))
abbrev s_marked : Stmt := topS 20
abbrev N_marked : List Str := ["world", "mark", "room"]
theorem sc_marked : FnScope N_marked ["world", "mark"] (defScope s_marked) := ⟨rfl, rfl, rfl, by decide +kernel, rfl, by decide +kernel, by decide +kernel⟩
def t_marked (K : PySem.W.Frag) (sp_ask_world : Sp) (sp_ask_marks : Sp) : TS :=
  (tSeq (tDrop (tCall sp_ask_world [] E0 (tCons (tVar 0) tNil)))
  (tSeq (tDrop (tCall sp_ask_marks [] E0 (tCons (tLst (tCons (tVar 1) tNil)) tNil)))
  (tRet (tLc (iRng1 (tCons (tCB (Evl.rLenS K) (tCons (tOp (rIxT K) (tVar 0) (tC (.int 0))) tNil)) tNil)) (gName 2) (tTest (tOp (rIn K false) (tVar 1) (tOp (rIxL K) (tOp (rIxT K) (tVar 0) (tC (.int 1))) (tVar 2)))) (tVar 2) [2]))))
theorem der_marked {P : Program} {w : World} {K : PySem.W.Frag} {mg : Str → Option Value} {base : Heap} (T : Txt K mg) {sp_ask_world : Sp} (D_ask_world : Dk P w K mg base "ask_world" ["world"] 4 sp_ask_world) {sp_ask_marks : Sp} (D_ask_marks : Dk P w K mg base "ask_marks" ["marks"] 3 sp_ask_marks) {f : Addr} {cdv : Value} {A : Around} {outer : List Env} {s : Shared} {H : Hp} {E : XK} (hr : Room 4 (A.deeper (envOfC "marked" (defScope s_marked) s.heap.objs.size f cdv))) :
    PSs (cxOf CX0 P w K mg base N_marked "marked" (defScope s_marked) f cdv A outer s H E).nox (defBody s_marked) (t_marked K sp_ask_world sp_ask_marks) := by
  have nd : N_marked.Nodup := sc_marked.nd
  exact (pss_cons (ps_expr (pe_dk D_ask_world hr (by rfl) (pa_cons (pv 0) pa_nil)))
      (pss_cons (ps_expr (pe_dk D_ask_marks (hr.mono (by decide)) (by rfl) (pa_cons (pe_lst (pa_cons (pv 1) pa_nil)) pa_nil)))
      (pss_one (ps_ret (pe_lc (own := [("room", 2)]) (g := gName 2) (tt := (tTest (tOp (rIn K false) (tVar 1) (tOp (rIxL K) (tOp (rIxT K) (tVar 0) (tC (.int 1))) (tVar 2))))) rfl nd (pi_range1 (by rfl) T.range (pa_cons (pe_callB call_len_seq (by rfl) T.len PySem.boot_len (pa_cons (pe_ix ix_tup (pv 0) pe_int (fun _ _ => rfl)) pa_nil)) pa_nil)) (blkOk_by (own := [("room", 2)]) (N := N_marked) (by kernel_rfl)) (fun _ _ _ _ _ => pg_name (i := 2) nd rfl (Or.inl rfl)) (fun _ _ _ _ _ => (pts_one (pt_cmpR op_in_seq (pv 1) (pe_ix ix_list (pe_ix ix_tup (pv 0) pe_int (fun _ _ => rfl)) (pv 2) (fun _ _ => rfl)) (by rfl)))) (fun _ _ _ _ _ => (pv 2)))))))
abbrev s_ask_room : Stmt := topS 16
abbrev N_ask_room : List Str := ["world", "room"]
theorem sc_ask_room : FnScope N_ask_room ["world", "room"] (defScope s_ask_room) := ⟨rfl, rfl, rfl, by decide +kernel, rfl, by decide +kernel, by decide +kernel⟩
def t_ask_room (K : PySem.W.Frag) : TS :=
  (tIfS (tNot (tTest (tChain rLe rLt (tC (.int 0)) (tVar 1) (tCB (Evl.rLenS K) (tCons (tOp (rIxT K) (tVar 0) (tC (.int 0))) tNil))))) tNever tNext)
theorem der_ask_room {P : Program} {w : World} {K : PySem.W.Frag} {mg : Str → Option Value} {base : Heap} (T : Txt K mg) {f : Addr} {cdv : Value} {A : Around} {outer : List Env} {s : Shared} {H : Hp} {E : XK} (hr : Room 0 (A.deeper (envOfC "ask_room" (defScope s_ask_room) s.heap.objs.size f cdv))) :
    PSs (cxOf CX0 P w K mg base N_ask_room "ask_room" (defScope s_ask_room) f cdv A outer s H E).nox (defBody s_ask_room) (t_ask_room K) := by
  have nd : N_ask_room.Nodup := sc_ask_room.nd
  exact (pss_one (ps_if (pt_not (pt_chain op_le op_lt pe_int (pv 1) (pe_callB call_len_seq (by rfl) T.len PySem.boot_len (pa_cons (pe_ix ix_tup (pv 0) pe_int (fun _ _ => rfl)) pa_nil)))) (pss_one ps_never) pss_nil))
abbrev s_walk_to : Stmt := topS 27
abbrev N_walk_to : List Str := ["steps", "room", "goal", "todo", "seen", "there", "found"]
theorem sc_walk_to : FnScope N_walk_to ["steps", "room", "goal"] (defScope s_walk_to) := ⟨rfl, rfl, rfl, by decide +kernel, rfl, by decide +kernel, by decide +kernel⟩
def t_walk_to (K : PySem.W.Frag) : TS :=
  (tSeq (tAsg (tLc (iList K (tOp (rIxL K) (tVar 0) (tVar 1))) (gName 5) tYes (tLst (tCons (tVar 5) tNil)) [5]) (gName 3))
  (tSeq (tAsg tDNewK (gName 4))
  (tSeq (tFor (iList K (tOp (rIxL K) (tVar 0) (tVar 1))) (gName 5) (sDPut (tVar 4) (tVar 5) (tC (.bl true))))
  (tSeq (tAsg (tBM K "list" rPopAt (tVar 3) (tCons (tC (.int 0)) tNil)) (gName 6))
  (tSeq (tWhile (tTest (tOp (rIn K true) (tOp (rIxL K) (tVar 6) (tUn (rU fun i => .int (-i)) (tC (.int 1)))) (tVar 2))) (tSeq (tFor (iList K (tOp (rIxL K) (tVar 0) (tOp (rIxL K) (tVar 6) (tUn (rU fun i => .int (-i)) (tC (.int 1)))))) (gName 5) (tIfS (tB (tDNotIn (tVar 5) (tVar 4))) (tSeq (sDPut (tVar 4) (tVar 5) (tC (.bl true)))
  (tDrop (tBM K "list" rAppend (tVar 3) (tCons (tOp rCat (tVar 6) (tLst (tCons (tVar 5) tNil))) tNil)))) tNext))
  (tAsg (tBM K "list" rPopAt (tVar 3) (tCons (tC (.int 0)) tNil)) (gName 6))))
  (tRet (tVar 6)))))))
theorem der_walk_to {P : Program} {w : World} {K : PySem.W.Frag} {mg : Str → Option Value} {base : Heap} (T : Txt K mg) {f : Addr} {cdv : Value} {A : Around} {outer : List Env} {s : Shared} {H : Hp} {E : XK} (hr : Room 0 (A.deeper (envOfC "walk_to" (defScope s_walk_to) s.heap.objs.size f cdv))) :
    PSs (cxOf CX0 P w K mg base N_walk_to "walk_to" (defScope s_walk_to) f cdv A outer s H E).nox (defBody s_walk_to) (t_walk_to K) := by
  have nd : N_walk_to.Nodup := sc_walk_to.nd
  exact (pss_cons (ps_setLc (i := 3) (own := [("there", 5)]) (g := gName 5) (tt := tYes) rfl nd rfl rfl (sw_true rfl rfl rfl (by decide +kernel)) (pi_list (pe_ix ix_list (pv 0) (pv 1) (fun _ _ => rfl))) (blkOk_by (own := [("there", 5)]) (N := N_walk_to) (by kernel_rfl)) (fun _ _ _ _ _ => pg_name (i := 5) nd rfl (Or.inl rfl)) (fun _ _ _ _ _ => pts_nil) (fun _ _ _ _ _ => (pe_lst (pa_cons (pv 5) pa_nil))))
      (pss_cons (ps_set (i := 4) nd rfl (Or.inl rfl) pe_dnewK)
      (pss_cons (ps_for PassesOwn.never rfl (pi_list (pe_ix ix_list (pv 0) (pv 1) (fun _ _ => rfl))) (pg_name (i := 5) nd rfl (Or.inl rfl)) (pss_one (ps_dput (hu_of hr) (pv 4) (pv 5) pe_bl rfl)))
      (pss_cons (ps_set (i := 6) nd rfl (Or.inl rfl) (pe_bm PySem.F.plainAttrs_list PySem.F.slot_list_pop PySem.F.type_list_pop mt_popAt (pv 3) (pa_cons pe_int pa_nil)))
      (pss_cons (ps_while PassesOwn.never (pt_cmpR op_notIn_seq (pe_ix ix_list (pv 6) (pe_un un_neg pe_int) (fun _ _ => rfl)) (pv 2) (by rfl)) (pss_cons (ps_for PassesOwn.never rfl (pi_list (pe_ix ix_list (pv 0) (pe_ix ix_list (pv 6) (pe_un un_neg pe_int) (fun _ _ => rfl)) (fun _ _ => rfl))) (pg_name (i := 5) nd rfl (Or.inl rfl)) (pss_one (ps_if (pt_cmp (pc_dnotin (hu_of hr) (pv 5) (pv 4))) (pss_cons (ps_dput (hu_of hr) (pv 4) (pv 5) pe_bl rfl)
      (pss_one (ps_expr (pe_bm PySem.F.plainAttrs_list PySem.F.slot_list_append PySem.F.type_list_append mt_append (pv 3) (pa_cons (pe_op op_cat (pv 6) (pe_lst (pa_cons (pv 5) pa_nil))) pa_nil))))) pss_nil)))
      (pss_one (ps_set (i := 6) nd rfl (Or.inl rfl) (pe_bm PySem.F.plainAttrs_list PySem.F.slot_list_pop PySem.F.type_list_pop mt_popAt (pv 3) (pa_cons pe_int pa_nil))))))
      (pss_one (ps_ret (pv 6))))))))
abbrev s_reach_of : Stmt := topS 28
abbrev N_reach_of : List Str := ["steps", "room", "found", "at", "there"]
theorem sc_reach_of : FnScope N_reach_of ["steps", "room"] (defScope s_reach_of) := ⟨rfl, rfl, rfl, by decide +kernel, rfl, by decide +kernel, by decide +kernel⟩
def t_reach_of (K : PySem.W.Frag) : TS :=
  (tSeq (tAsg (tLst (tCons (tVar 1) tNil)) (gName 2))
  (tSeq (tAsg (tC (.int 0)) (gName 3))
  (tSeq (tWhile (tTest (tOp rLt (tVar 3) (tCB (Evl.rLenS K) (tCons (tVar 2) tNil)))) (tSeq (tDrop (tBM K "list" rExtend (tVar 2) (tCons (tLc (iList K (tOp (rIxL K) (tVar 0) (tOp (rIxL K) (tVar 2) (tVar 3)))) (gName 4) (tTest (tOp (rIn K true) (tVar 4) (tVar 2))) (tVar 4) [4]) tNil)))
  (tAsg (tOp rPlus (tVar 3) (tC (.int 1))) (gName 3))))
  (tRet (tVar 2)))))
theorem der_reach_of {P : Program} {w : World} {K : PySem.W.Frag} {mg : Str → Option Value} {base : Heap} (T : Txt K mg) {f : Addr} {cdv : Value} {A : Around} {outer : List Env} {s : Shared} {H : Hp} {E : XK} (hr : Room 0 (A.deeper (envOfC "reach_of" (defScope s_reach_of) s.heap.objs.size f cdv))) :
    PSs (cxOf CX0 P w K mg base N_reach_of "reach_of" (defScope s_reach_of) f cdv A outer s H E).nox (defBody s_reach_of) (t_reach_of K) := by
  have nd : N_reach_of.Nodup := sc_reach_of.nd
  exact (pss_cons (ps_set (i := 2) nd rfl (Or.inr rfl) (pe_lst (pa_cons (pv 1) pa_nil)))
      (pss_cons (ps_set (i := 3) nd rfl (Or.inl rfl) pe_int)
      (pss_cons (ps_while PassesOwn.never (pt_cmpR op_lt (pv 3) (pe_callB call_len_seq (by rfl) T.len PySem.boot_len (pa_cons (pv 2) pa_nil)) (nomark _)) (pss_cons (ps_expr (pe_bm PySem.F.plainAttrs_list PySem.F.slot_list_extend PySem.F.type_list_extend mt_extend (pv 2) (pa_cons (pe_lc (own := [("there", 4)]) (g := gName 4) (tt := (tTest (tOp (rIn K true) (tVar 4) (tVar 2)))) rfl nd (pi_list (pe_ix ix_list (pv 0) (pe_ix ix_list (pv 2) (pv 3) (fun _ _ => rfl)) (fun _ _ => rfl))) (blkOk_by (own := [("there", 4)]) (N := N_reach_of) (by kernel_rfl)) (fun _ _ _ _ _ => pg_name (i := 4) nd rfl (Or.inl rfl)) (fun _ _ _ _ _ => (pts_one (pt_cmpR op_notIn_seq (pv 4) (pv 2) (by rfl)))) (fun _ _ _ _ _ => (pv 4))) pa_nil)))
      (pss_one (ps_set (i := 3) nd rfl (Or.inl rfl) (pe_op op_add (pv 3) pe_int)))))
      (pss_one (ps_ret (pv 2))))))
abbrev s_fair_way : Stmt := topS 29
abbrev N_fair_way : List Str := ["world", "rooms", "marks", "room", "kept", "steps", "home", "front", "ring", "mark", "one"]
theorem sc_fair_way : FnScope N_fair_way ["world", "rooms", "marks", "room"] (defScope s_fair_way) := ⟨rfl, rfl, rfl, by decide +kernel, rfl, by decide +kernel, by decide +kernel⟩
def t_fair_way (K : PySem.W.Frag) (sp_fair_rooms : Sp) (sp_ask_room : Sp) (sp_inner : Sp) (sp_walk_to : Sp) (sp_reach_of : Sp) : TS :=
  (tSeq (tAsg (tCall sp_fair_rooms [] E0 (tCons (tVar 0) (tCons (tVar 1) (tCons (tVar 2) tNil)))) (gName 4))
  (tSeq (tDrop (tCall sp_ask_room [] E0 (tCons (tVar 0) (tCons (tVar 3) tNil))))
  (tSeq (tIfS (tTest (tOp (rIn K true) (tVar 3) (tVar 4))) tNever tNext)
  (tSeq (tAsg (tCall sp_inner [] E0 (tCons (tVar 0) (tCons (tVar 4) tNil))) (gName 5))
  (tSeq (tAsg (tOp (rIxT K) (tCB (rMinP K) (tCons (tLc (iList K (tCall sp_reach_of [] E0 (tCons (tVar 5) (tCons (tVar 3) tNil)))) (gName 10) tYes (tTup (tCons (tCB (Evl.rLenS K) (tCons (tCall sp_reach_of [] E0 (tCons (tVar 5) (tCons (tVar 10) tNil))) tNil)) (tCons (tVar 10) tNil))) [10]) tNil)) (tC (.int 1))) (gName 6))
  (tSeq (tAsg (tLst tNil) (gName 7))
  (tSeq (tIfS (tTest (tOp rNe (tVar 3) (tVar 6))) (tAsg (tOp rCat (tLst (tCons (tVar 3) tNil)) (tSl (rSlL K) (tCall sp_walk_to [] E0 (tCons (tVar 5) (tCons (tVar 3) (tCons (tLst (tCons (tVar 6) tNil)) tNil)))) tNoPart (tPart (tUn (rU fun i => .int (-i)) (tC (.int 1)))))) (gName 7)) tNext)
  (tSeq (tAsg (tLst (tCons (tVar 6) tNil)) (gName 8))
  (tSeq (tFor (iList K (tVar 2)) (gName 9) (tDrop (tBM K "list" rExtend (tVar 8) (tCons (tCall sp_walk_to [] E0 (tCons (tVar 5) (tCons (tOp (rIxL K) (tVar 8) (tUn (rU fun i => .int (-i)) (tC (.int 1)))) (tCons (tLc (iList K (tVar 4)) (gName 10) (tTest (tOp (rIn K false) (tVar 9) (tOp (rIxL K) (tOp (rIxT K) (tVar 0) (tC (.int 1))) (tVar 10)))) (tVar 10) [10]) tNil)))) tNil))))
  (tSeq (tDrop (tBM K "list" rExtend (tVar 8) (tCons (tCall sp_walk_to [] E0 (tCons (tVar 5) (tCons (tOp (rIxL K) (tVar 8) (tUn (rU fun i => .int (-i)) (tC (.int 1)))) (tCons (tLst (tCons (tVar 6) tNil)) tNil)))) tNil)))
  (tRet (tTup (tCons (tVar 7) (tCons (tSl (rSlL K) (tVar 8) tNoPart (tPart (tUn (rU fun i => .int (-i)) (tC (.int 1))))) tNil))))))))))))))
theorem der_fair_way {P : Program} {w : World} {K : PySem.W.Frag} {mg : Str → Option Value} {base : Heap} (T : Txt K mg) {sp_fair_rooms : Sp} (D_fair_rooms : Dk P w K mg base "fair_rooms" ["world", "rooms", "marks"] 6 sp_fair_rooms) {sp_ask_room : Sp} (D_ask_room : Dk P w K mg base "ask_room" ["world", "room"] 1 sp_ask_room) {sp_inner : Sp} (D_inner : Dk P w K mg base "inner" ["world", "rooms"] 1 sp_inner) {sp_walk_to : Sp} (D_walk_to : Dk P w K mg base "walk_to" ["steps", "room", "goal"] 1 sp_walk_to) {sp_reach_of : Sp} (D_reach_of : Dk P w K mg base "reach_of" ["steps", "room"] 1 sp_reach_of) {f : Addr} {cdv : Value} {A : Around} {outer : List Env} {s : Shared} {H : Hp} {E : XK} (hr : Room 6 (A.deeper (envOfC "fair_way" (defScope s_fair_way) s.heap.objs.size f cdv))) :
    PSs (cxOf CX0 P w K mg base N_fair_way "fair_way" (defScope s_fair_way) f cdv A outer s H E).nox (defBody s_fair_way) (t_fair_way K sp_fair_rooms sp_ask_room sp_inner sp_walk_to sp_reach_of) := by
  have nd : N_fair_way.Nodup := sc_fair_way.nd
  exact (pss_cons (ps_set (i := 4) nd rfl (Or.inl rfl) (pe_dk D_fair_rooms hr (by rfl) (pa_cons (pv 0) (pa_cons (pv 1) (pa_cons (pv 2) pa_nil)))))
      (pss_cons (ps_expr (pe_dk D_ask_room (hr.mono (by decide)) (by rfl) (pa_cons (pv 0) (pa_cons (pv 3) pa_nil))))
      (pss_cons (ps_if (pt_cmpR op_notIn_seq (pv 3) (pv 4) (by rfl)) (pss_one ps_never) pss_nil)
      (pss_cons (ps_set (i := 5) nd rfl (Or.inr rfl) (pe_dk D_inner (hr.mono (by decide)) (by rfl) (pa_cons (pv 0) (pa_cons (pv 4) pa_nil))))
      (pss_cons (ps_set (i := 6) nd rfl (Or.inl rfl) (pe_ix ix_tup (pe_callB (cr_minP rfl hr) (by rfl) T.min (by decide +kernel) (pa_cons (pe_lc (own := [("one", 10)]) (g := gName 10) (tt := tYes) rfl nd (pi_list (pe_dk D_reach_of (hr.mono (by decide)) (by rfl) (pa_cons (pv 5) (pa_cons (pv 3) pa_nil)))) (blkOk_by (own := [("one", 10)]) (N := N_fair_way) (by kernel_rfl)) (fun _ _ _ _ _ => pg_name (i := 10) nd rfl (Or.inl rfl)) (fun _ _ _ _ _ => pts_nil) (fun _ _ _ _ _ => (pe_tup (pa_cons (pe_callB call_len_seq (by rfl) T.len PySem.boot_len (pa_cons (pe_dk D_reach_of (hr.mono (by decide)) (by rfl) (pa_cons (pv 5) (pa_cons (pv 10) pa_nil))) pa_nil)) (pa_cons (pv 10) pa_nil))))) pa_nil)) pe_int (fun _ _ => rfl)))
      (pss_cons (ps_set (i := 7) nd rfl (Or.inl rfl) (pe_lst pa_nil))
      (pss_cons (ps_if (pt_cmpR op_ne (pv 3) (pv 6) (nomark _)) (pss_one (ps_set (i := 7) nd rfl (Or.inl rfl) (pe_op op_cat (pe_lst (pa_cons (pv 3) pa_nil)) (pe_slice sl_list (pe_dk D_walk_to (hr.mono (by decide)) (by rfl) (pa_cons (pv 5) (pa_cons (pv 3) (pa_cons (pe_lst (pa_cons (pv 6) pa_nil)) pa_nil)))) po_none (po_some (pe_un un_neg pe_int)))))) pss_nil)
      (pss_cons (ps_set (i := 8) nd rfl (Or.inl rfl) (pe_lst (pa_cons (pv 6) pa_nil)))
      (pss_cons (ps_for PassesOwn.never rfl (pi_list (pv 2)) (pg_name (i := 9) nd rfl (Or.inr rfl)) (pss_one (ps_expr (pe_bm PySem.F.plainAttrs_list PySem.F.slot_list_extend PySem.F.type_list_extend mt_extend (pv 8) (pa_cons (pe_dk D_walk_to (hr.mono (by decide)) (by rfl) (pa_cons (pv 5) (pa_cons (pe_ix ix_list (pv 8) (pe_un un_neg pe_int) (fun _ _ => rfl)) (pa_cons (pe_lc (own := [("one", 10)]) (g := gName 10) (tt := (tTest (tOp (rIn K false) (tVar 9) (tOp (rIxL K) (tOp (rIxT K) (tVar 0) (tC (.int 1))) (tVar 10))))) rfl nd (pi_list (pv 4)) (blkOk_by (own := [("one", 10)]) (N := N_fair_way) (by kernel_rfl)) (fun _ _ _ _ _ => pg_name (i := 10) nd rfl (Or.inl rfl)) (fun _ _ _ _ _ => (pts_one (pt_cmpR op_in_seq (pv 9) (pe_ix ix_list (pe_ix ix_tup (pv 0) pe_int (fun _ _ => rfl)) (pv 10) (fun _ _ => rfl)) (by rfl)))) (fun _ _ _ _ _ => (pv 10))) pa_nil)))) pa_nil)))))
      (pss_cons (ps_expr (pe_bm PySem.F.plainAttrs_list PySem.F.slot_list_extend PySem.F.type_list_extend mt_extend (pv 8) (pa_cons (pe_dk D_walk_to (hr.mono (by decide)) (by rfl) (pa_cons (pv 5) (pa_cons (pe_ix ix_list (pv 8) (pe_un un_neg pe_int) (fun _ _ => rfl)) (pa_cons (pe_lst (pa_cons (pv 6) pa_nil)) pa_nil)))) pa_nil)))
      (pss_one (ps_ret (pe_tup (pa_cons (pv 7) (pa_cons (pe_slice sl_list (pv 8) po_none (po_some (pe_un un_neg pe_int))) pa_nil)))))))))))))))
abbrev s_law : Stmt := topS 59
abbrev N_law : List Str := ["script", "world", "many", "every", "player", "mark", "rooms", "kept", "plan", "hall", "room", "ranks", "fair", "way"]
theorem sc_law : FnScope N_law ["script"] (defScope s_law) := ⟨rfl, rfl, rfl, by decide +kernel, rfl, by decide +kernel, by decide +kernel⟩
def t_law (K : PySem.W.Frag) (sp_law_world : Sp) (sp_law_draw : Sp) (sp_law_rooms : Sp) (sp_follow : Sp) (sp_fair_rooms : Sp) (sp_law_cell_at : Sp) (sp_keep : Sp) (sp_again : Sp) (sp_way_is_fair : Sp) (sp_marked : Sp) (sp_fair_way : Sp) : TS :=
  (tSeq (tAsg (tCall sp_law_world [] E0 (tCons (tVar 0) (tCons (tC (.int 0)) (tCons (tC (.int 6)) tNil)))) (gName 1))
  (tSeq (tAsg (tCB (Evl.rLenS K) (tCons (tOp (rIxT K) (tVar 1) (tC (.int 0))) tNil)) (gName 2))
  (tSeq (tAsg (tLstRg (tRg1 (tVar 2))) (gName 3))
  (tSeq (tAsg (tCall sp_law_draw [] E0 (tCons (tCall sp_law_cell_at [] E0 (tCons (tVar 0) (tCons (tC (.int 8)) tNil))) (tCons (tC (.int 0)) (tCons (tC (.int 2)) tNil)))) (gName 4))
  (tSeq (tAsg (tOp rIxS (tC (.str "abc")) (tCall sp_law_draw [] E0 (tCons (tCall sp_law_cell_at [] E0 (tCons (tVar 0) (tCons (tC (.int 8)) tNil))) (tCons (tC (.int 1)) (tCons (tC (.int 3)) tNil))))) (gName 5))
  (tSeq (tAsg (tCall sp_law_rooms [] E0 (tCons (tCall sp_law_cell_at [] E0 (tCons (tVar 0) (tCons (tC (.int 7)) tNil))) (tCons (tVar 2) tNil))) (gName 6))
  (tSeq (tAsg (tSl (rSlT K) (tCall sp_keep [] E0 (tCons (tVar 1) (tCons (tVar 4) (tCons (tVar 6) tNil)))) tNoPart (tPart (tC (.int 2)))) (gTup K 2 (gCons (gName 7) (gCons (gName 8) gNil))))
  (tSeq (tAsg (tCall sp_follow [] E0 (tCons (tVar 1) (tCons (tVar 4) (tCons (tVar 8) tNil)))) (gName 9))
  (tSeq (tFor (iList K (tVar 7)) (gName 10) (tSeq (tIfS (tTest (tOp (rIn K true) (tVar 10) (tCall sp_fair_rooms [] E0 (tCons (tVar 1) (tCons (tVar 6) (tCons (tLst tNil) tNil)))))) (tRet (tC (.bl false))) tNext)
  (tIfS (tTest (tOp rNotB (tCall sp_way_is_fair [] E0 (tCons (tVar 1) (tCons (tVar 6) (tCons (tLst tNil) (tCons (tCall sp_fair_way [] E0 (tCons (tVar 9) (tCons (tVar 6) (tCons (tLst tNil) (tCons (tVar 10) tNil))))) tNil))))) (tC (.bl true)))) (tRet (tC (.bl false))) tNext)))
  (tSeq (tAsg (tSl (rSlT K) (tCall sp_again [] E0 (tCons (tVar 1) (tCons (tVar 4) (tCons (tCall sp_marked [] E0 (tCons (tVar 1) (tCons (tVar 5) tNil))) tNil)))) tNoPart (tPart (tC (.int 2)))) (gTup K 2 (gCons (gName 11) (gCons (gName 8) gNil))))
  (tSeq (tAsg (tCall sp_follow [] E0 (tCons (tVar 1) (tCons (tVar 4) (tCons (tVar 8) tNil)))) (gName 9))
  (tSeq (tAsg (tCall sp_fair_rooms [] E0 (tCons (tVar 1) (tCons (tVar 3) (tCons (tLst (tCons (tVar 5) tNil)) tNil)))) (gName 12))
  (tSeq (tFor (iList K (tVar 3)) (gName 10) (tSeq (tIfS (tAnd (tTest (tOp rNotN (tOp (rIxL K) (tVar 11) (tVar 10)) (tC .non))) (tTest (tOp (rIn K true) (tVar 10) (tVar 12)))) (tRet (tC (.bl false))) tNext)
  (tIfS (tTest (tOp rNotN (tOp (rIxL K) (tVar 11) (tVar 10)) (tC .non))) (tSeq (tAsg (tCall sp_fair_way [] E0 (tCons (tVar 9) (tCons (tVar 3) (tCons (tLst (tCons (tVar 5) tNil)) (tCons (tVar 10) tNil))))) (gName 13))
  (tIfS (tTest (tOp rNotB (tCall sp_way_is_fair [] E0 (tCons (tVar 1) (tCons (tVar 3) (tCons (tLst (tCons (tVar 5) tNil)) (tCons (tVar 13) tNil))))) (tC (.bl true)))) (tRet (tC (.bl false))) tNext)) tNext)))
  (tRet (tC (.bl true))))))))))))))))
theorem der_law {P : Program} {w : World} {K : PySem.W.Frag} {mg : Str → Option Value} {base : Heap} (T : Txt K mg) {sp_law_world : Sp} (D_law_world : Dk P w K mg base "_law_world" ["script", "at", "most"] 2 sp_law_world) {sp_law_draw : Sp} (D_law_draw : Dk P w K mg base "_law_draw" ["cell", "k", "bound"] 1 sp_law_draw) {sp_law_rooms : Sp} (D_law_rooms : Dk P w K mg base "_law_rooms" ["cell", "many"] 2 sp_law_rooms) {sp_follow : Sp} (D_follow : Dk P w K mg base "follow" ["world", "player", "plan"] 7 sp_follow) {sp_fair_rooms : Sp} (D_fair_rooms : Dk P w K mg base "fair_rooms" ["world", "rooms", "marks"] 6 sp_fair_rooms) {sp_law_cell_at : Sp} (D_law_cell_at : Dk P w K mg base "_law_cell_at" ["script", "k"] 1 sp_law_cell_at) {sp_keep : Sp} (D_keep : Dk P w K mg base "keep" ["world", "player", "rooms"] 7 sp_keep) {sp_again : Sp} (D_again : Dk P w K mg base "again" ["world", "player", "rooms"] 6 sp_again) {sp_way_is_fair : Sp} (D_way_is_fair : Dk P w K mg base "way_is_fair" ["world", "rooms", "marks", "way"] 7 sp_way_is_fair) {sp_marked : Sp} (D_marked : Dk P w K mg base "marked" ["world", "mark"] 5 sp_marked) {sp_fair_way : Sp} (D_fair_way : Dk P w K mg base "fair_way" ["world", "rooms", "marks", "room"] 7 sp_fair_way) {f : Addr} {cdv : Value} {A : Around} {outer : List Env} {s : Shared} {H : Hp} {E : XK} (hr : Room 7 (A.deeper (envOfC "law" (defScope s_law) s.heap.objs.size f cdv))) :
    PSs (cxOf CX0 P w K mg base N_law "law" (defScope s_law) f cdv A outer s H E).nox (defBody s_law) (t_law K sp_law_world sp_law_draw sp_law_rooms sp_follow sp_fair_rooms sp_law_cell_at sp_keep sp_again sp_way_is_fair sp_marked sp_fair_way) := by
  have nd : N_law.Nodup := sc_law.nd
  exact (pss_cons (ps_set (i := 1) nd rfl (Or.inl rfl) (pe_dk D_law_world (hr.mono (by decide)) (by rfl) (pa_cons (pv 0) (pa_cons pe_int (pa_cons pe_int pa_nil)))))
      (pss_cons (ps_set (i := 2) nd rfl (Or.inl rfl) (pe_callB call_len_seq (by rfl) T.len PySem.boot_len (pa_cons (pe_ix ix_tup (pv 1) pe_int (fun _ _ => rfl)) pa_nil)))
      (pss_cons (ps_set (i := 3) nd rfl (Or.inl rfl) (pe_listRg rfl (by rfl) T.list (prg_1 (by rfl) T.range (pv 2))))
      (pss_cons (ps_set (i := 4) nd rfl (Or.inl rfl) (pe_dk D_law_draw (hr.mono (by decide)) (by rfl) (pa_cons (pe_dk D_law_cell_at (hr.mono (by decide)) (by rfl) (pa_cons (pv 0) (pa_cons pe_int pa_nil))) (pa_cons pe_int (pa_cons pe_int pa_nil)))))
      (pss_cons (ps_set (i := 5) nd rfl (Or.inl rfl) (pe_ix ix_str pe_str (pe_dk D_law_draw (hr.mono (by decide)) (by rfl) (pa_cons (pe_dk D_law_cell_at (hr.mono (by decide)) (by rfl) (pa_cons (pv 0) (pa_cons pe_int pa_nil))) (pa_cons pe_int (pa_cons pe_int pa_nil)))) (fun _ _ => rfl)))
      (pss_cons (ps_set (i := 6) nd rfl (Or.inl rfl) (pe_dk D_law_rooms (hr.mono (by decide)) (by rfl) (pa_cons (pe_dk D_law_cell_at (hr.mono (by decide)) (by rfl) (pa_cons (pv 0) (pa_cons pe_int pa_nil))) (pa_cons (pv 2) pa_nil))))
      (pss_cons (ps_asg (pe_slice sl_tup (pe_dk D_keep hr (by rfl) (pa_cons (pv 1) (pa_cons (pv 4) (pa_cons (pv 6) pa_nil)))) po_none (po_some pe_int)) (pg_tup rfl (pgs_cons (pg_name (i := 7) nd rfl (Or.inl rfl)) (pgs_cons (pg_name (i := 8) nd rfl (Or.inl rfl)) pgs_nil))))
      (pss_cons (ps_set (i := 9) nd rfl (Or.inl rfl) (pe_dk D_follow hr (by rfl) (pa_cons (pv 1) (pa_cons (pv 4) (pa_cons (pv 8) pa_nil)))))
      (pss_cons (ps_for PassesOwn.never rfl (pi_list (pv 7)) (pg_name (i := 10) nd rfl (Or.inl rfl)) (pss_cons (ps_if (pt_cmpR op_notIn_seq (pv 10) (pe_dk D_fair_rooms (hr.mono (by decide)) (by rfl) (pa_cons (pv 1) (pa_cons (pv 6) (pa_cons (pe_lst pa_nil) pa_nil)))) (by rfl)) (pss_one (ps_ret pe_bl)) pss_nil)
      (pss_one (ps_if (pt_cmpR op_notBl (pe_dk D_way_is_fair hr (by rfl) (pa_cons (pv 1) (pa_cons (pv 6) (pa_cons (pe_lst pa_nil) (pa_cons (pe_dk D_fair_way hr (by rfl) (pa_cons (pv 9) (pa_cons (pv 6) (pa_cons (pe_lst pa_nil) (pa_cons (pv 10) pa_nil))))) pa_nil))))) pe_bl (nomark _)) (pss_one (ps_ret pe_bl)) pss_nil))))
      (pss_cons (ps_asg (pe_slice sl_tup (pe_dk D_again (hr.mono (by decide)) (by rfl) (pa_cons (pv 1) (pa_cons (pv 4) (pa_cons (pe_dk D_marked (hr.mono (by decide)) (by rfl) (pa_cons (pv 1) (pa_cons (pv 5) pa_nil))) pa_nil)))) po_none (po_some pe_int)) (pg_tup rfl (pgs_cons (pg_name (i := 11) nd rfl (Or.inl rfl)) (pgs_cons (pg_name (i := 8) nd rfl (Or.inl rfl)) pgs_nil))))
      (pss_cons (ps_set (i := 9) nd rfl (Or.inl rfl) (pe_dk D_follow hr (by rfl) (pa_cons (pv 1) (pa_cons (pv 4) (pa_cons (pv 8) pa_nil)))))
      (pss_cons (ps_set (i := 12) nd rfl (Or.inl rfl) (pe_dk D_fair_rooms (hr.mono (by decide)) (by rfl) (pa_cons (pv 1) (pa_cons (pv 3) (pa_cons (pe_lst (pa_cons (pv 5) pa_nil)) pa_nil)))))
      (pss_cons (ps_for PassesOwn.never rfl (pi_list (pv 3)) (pg_name (i := 10) nd rfl (Or.inl rfl)) (pss_cons (ps_if (PW.pt (pw_and (pt_cmpR op_notN (pe_ix ix_list (pv 11) (pv 10) (fun _ _ => rfl)) pe_non (nomark _)) (pw_and1 (pt_cmpR op_notIn_seq (pv 10) (pv 12) (by rfl))))) (pss_one (ps_ret pe_bl)) pss_nil)
      (pss_one (ps_if (pt_cmpR op_notN (pe_ix ix_list (pv 11) (pv 10) (fun _ _ => rfl)) pe_non (nomark _)) (pss_cons (ps_set (i := 13) nd rfl (Or.inl rfl) (pe_dk D_fair_way hr (by rfl) (pa_cons (pv 9) (pa_cons (pv 3) (pa_cons (pe_lst (pa_cons (pv 5) pa_nil)) (pa_cons (pv 10) pa_nil))))))
      (pss_one (ps_if (pt_cmpR op_notBl (pe_dk D_way_is_fair hr (by rfl) (pa_cons (pv 1) (pa_cons (pv 3) (pa_cons (pe_lst (pa_cons (pv 5) pa_nil)) (pa_cons (pv 13) pa_nil))))) pe_bl (nomark _)) (pss_one (ps_ret pe_bl)) pss_nil))) pss_nil))))
      (pss_one (ps_ret pe_bl)))))))))))))))
end FH
namespace FH
open PySem PySem.Spec PyProof.Rows L2 Evl
/-! ### more evaluation -/
section
variable {K : PySem.W.Frag} {σ : L2.St} {H H' : Hp} {ta tb tc te tl : TE} {t u : TT} {x y z v : V} {r r' : R2}
theorem et_yes : EvT tYes σ H true := fun H1 _ Q q => q H1 (Ex.refl H1)
theorem el_map {α : Type} {e : α → V} {g : α → V} {l : List α} {j : Nat} {vs : List Nat} (h : EvP tl σ H (fun v H' => ∃ a, v = .ref a ∧ L1 e H' a l)) (hz : l.length ≤ 40000) (hw : ∀ x, wipe ((wipe σ vs).set j (some x)) vs = wipe σ vs)
    (he : ∀ x H1, x ∈ l → Ex H H1 → Ev te ((wipe σ vs).set j (some (e x))) H1 (g x)) : EvL (tLc (iList K tl) (gName j) tYes te vs) σ H (l.map g) := by
  have := el_filt (K := K) (t := tYes) (g := g) (fun _ => true) h hz hw (fun x H1 _ _ => et_yes) (fun x H1 hx _ e => he x H1 hx e)
  rw [List.filter_eq_self.mpr fun a _ => rfl] at this
  exact this
theorem el_mapR {g : Nat → V} {n j : Nat} {vs : List Nat} {ta : TA} (h : EvA ta σ H [nv n]) (hz : n ≤ 40000) (hw : ∀ x, wipe ((wipe σ vs).set j (some x)) vs = wipe σ vs)
    (he : ∀ x H1, x < n → Ex H H1 → Ev te ((wipe σ vs).set j (some (nv x))) H1 (g x)) : EvL (tLc (iRng1 ta) (gName j) tYes te vs) σ H ((List.range n).map g) := by
  have := el_filtR (t := tYes) (g := g) (fun _ => true) h hz hw (fun x H1 _ _ => et_yes) (fun x H1 hx _ e => he x H1 hx e)
  rw [List.filter_eq_self.mpr fun a _ => rfl] at this
  exact this
theorem ev_all {α : Type} {l : List α} {b : α → Bool} (h : EvL te σ H (l.map fun x => V.bl (b x))) : Ev (tCB (rAll K) (tCons te tNil)) σ H (.bl (l.all b)) := fun H1 e Q q =>
  h H1 e _ fun p H2 _ e2 h2 => ⟨p, l.map b, rfl, sq_of (by rw [h2, List.map_map]; rfl), by
    rw [List.all_map]
    exact q H2 e2⟩
theorem ev_chain {b1 b2 : Bool} (ha : Ev ta σ H x) (hb : Ev tb σ H y) (hr : RV r x y H (.bl b1)) (hc : b1 = true → Ev tc σ H z) (hr2 : b1 = true → RV r' y z H (.bl b2)) : Ev (tChain r r' ta tb tc) σ H (.bl (b1 && b2)) := fun H1 e Q q =>
  ha H1 e _ fun H2 e2 => hb H2 (e.trans e2) _ fun H3 e3 => hr H3 ((e.trans e2).trans e3) _ fun H4 e4 => ⟨b1, rfl, by
    cases b1 with
    | false =>
      show Q (.bl false) H4
      exact q H4 ((e2.trans e3).trans e4)
    | true =>
      show tc σ H4 fun w' H4 => r' y w' H4 Q
      exact hc rfl H4 (((e.trans e2).trans e3).trans e4) _ fun H5 e5 => hr2 rfl H5 ((((e.trans e2).trans e3).trans e4).trans e5) Q fun H6 e6 => q H6 ((((e2.trans e3).trans e4).trans e5).trans e6)⟩
/-- 0 <= a < b -/
theorem ev_zlt {a b : Nat} (hb : Ev tb σ H (nv a)) (hc : Ev tc σ H (nv b)) : Ev (tChain rLe rLt (tC (.int 0)) tb tc) σ H (.bl (decide (a < b))) := by
  have h := ev_chain (r := rLe) (r' := rLt) (x := .int 0) (y := nv a) (z := nv b) (b1 := decide ((0 : Int) ≤ (a : Int))) (b2 := decide ((a : Int) < (b : Int))) (ta := tC (.int 0)) ev_c hb (rv_I0 (H := H)) (fun _ => hc) (fun _ => rv_I0)
  refine ev_is h (congrArg V.bl ?_)
  rw [decide_eq_true (Int.natCast_nonneg a), Bool.true_and]
  exact decide_eq_decide.mpr Int.ofNat_lt
theorem ev_minus {a b : Nat} (h : b ≤ a) (ha : Ev ta σ H (nv a)) (hb : Ev tb σ H (nv b)) : Ev (tOp rMinus ta tb) σ H (nv (a - b)) := ev_is (ev_op ha hb rv_I0) (by
  show V.int _ = V.int _
  rw [Int.ofNat_sub h])
theorem ea1 {v : V} (h : Ev te σ H v) : EvA (tCons te tNil) σ H [v] := ea_cons h ea_nil
theorem ea2 {v w : V} (h : Ev ta σ H v) (g : Ev tb σ H w) : EvA (tCons ta (tCons tb tNil)) σ H [v, w] := ea_cons h (ea1 g)
theorem ea3 {v w x : V} (h : Ev ta σ H v) (g : Ev tb σ H w) (k : Ev tc σ H x) : EvA (tCons ta (tCons tb (tCons tc tNil))) σ H [v, w, x] := ea_cons h (ea2 g k)
/-- a call that hands back a value -/
theorem evc {sp : Sp} {E : XK} {tr : TA} {vs : List V} (h : EvA tr σ H vs) (hs : ∀ H2, Ex H H2 → ∀ Q : VK, RetV v H2 Q → ∀ E : XK, sp vs H2 Q E) : Ev (tCall sp [] E tr) σ H v := ev_call h fun H1 e Q q E => by
  rw [List.append_nil]
  exact hs H1 e Q q E
def RetP (Φ : V → Hp → Prop) (H : Hp) (Q : VK) : Prop := ∀ v H', Ex H H' → Φ v H' → Q v H'
theorem RetP.go {Φ : V → Hp → Prop} {Q : VK} (k : RetP Φ H Q) (e : Ex H H') : RetP Φ H' Q := fun v H2 e2 h => k v H2 (e.trans e2) h
theorem RetV.on {Q : VK} (k : RetV v H Q) (e : Ex H H') : RetV v H' Q := fun H2 e2 => k H2 (e.trans e2)
/-- a call that hands back what is described -/
theorem evpc {sp : Sp} {E : XK} {tr : TA} {vs : List V} {Φ : V → Hp → Prop} (h : EvA tr σ H vs) (hs : ∀ H2, Ex H H2 → ∀ Q : VK, RetP Φ H2 Q → ∀ E : XK, sp vs H2 Q E) : EvP (tCall sp [] E tr) σ H Φ := evp_callA h fun H2 e Q q E => by
  rw [List.append_nil]
  exact hs H2 e Q q E
end
/-! ### worlds in the heap -/
theorem LL.at {e : Nat → V} {H : Hp} {a : Addr} {xss : List (List Nat)} (h : LL e H a xss) {i : Nat} (hi : i < xss.length) : ∃ (as : List Addr) (p : Addr), H a = some (.lst (as.map V.ref)) ∧ (as.map V.ref)[i]? = some (.ref p) ∧ L1 e H p (xss.getD i []) := by
  obtain ⟨as, h1, h2, h3⟩ := h
  have hi' : i < as.length := by omega
  refine ⟨as, as[i], h1, by rw [List.getElem?_map, List.getElem?_eq_getElem hi']; rfl, ?_⟩
  have := h3 i as[i] xss[i] (List.getElem?_eq_getElem hi') (List.getElem?_eq_getElem hi)
  rw [List.getD_eq_getElem?_getD, List.getElem?_eq_getElem hi]
  exact this
theorem LL.len {e : Nat → V} {H : Hp} {a : Addr} {xss : List (List Nat)} (h : LL e H a xss) : ∃ as : List Addr, H a = some (.lst (as.map V.ref)) ∧ as.length = xss.length := by
  obtain ⟨as, h1, h2, _⟩ := h
  exact ⟨as, h1, h2⟩
theorem map_getD {α : Type} {e : α → V} {xs : List α} {d : α} {i : Nat} (hi : i < xs.length) : (xs.map e)[i]? = some (e (xs.getD i d)) := by
  rw [List.getElem?_map, List.getElem?_eq_getElem hi, List.getD_eq_getElem?_getD, List.getElem?_eq_getElem hi]
  rfl
section
variable {K : PySem.W.Frag} {σ : L2.St} {H H' : Hp} {ta tb tc te tl tr : TE} {a p : Addr} {W : Wd} {r : Nat}
/-- S[r], a row -/
theorem ev_row {e : Nat → V} {xss : List (List Nat)} (h : LL e H a xss) (ha : Ev ta σ H (.ref a)) (hb : Ev tb σ H (nv r)) (hr : r < xss.length) : ∃ p, L1 e H p (xss.getD r []) ∧ Ev (tOp (rIxL K) ta tb) σ H (.ref p) := by
  obtain ⟨as, p, h1, h2, h3⟩ := h.at hr
  exact ⟨p, h3, ev_ix ha hb h1 h2⟩
theorem evp_row {e : Nat → V} {xss : List (List Nat)} (h : LL e H a xss) (ha : Ev ta σ H (.ref a)) (hb : Ev tb σ H (nv r)) (hr : r < xss.length) : EvP (tOp (rIxL K) ta tb) σ H (fun v H' => ∃ p, v = .ref p ∧ L1 e H' p (xss.getD r [])) := by
  obtain ⟨p, h1, h2⟩ := ev_row (K := K) h ha hb hr
  exact evp_ref h2 h1
theorem ev_lenLL {e : Nat → V} {xss : List (List Nat)} (h : LL e H a xss) (ha : Ev ta σ H (.ref a)) : Ev (tCB (rLenS K) (tCons ta tNil)) σ H (nv xss.length) := by
  obtain ⟨as, h1, h2⟩ := h.len
  refine ev_is (ev_len ha (sq_of h1)) ?_
  show V.int _ = V.int _
  rw [List.length_map, h2]
/-- len(world[0]) -/
theorem ev_wn (h : IsW H a W) (ha : Ev ta σ H (.ref a)) : Ev (tCB (rLenS K) (tCons (tOp (rIxT K) ta (tC (.int 0))) tNil)) σ H (nv W.n) := by
  obtain ⟨o, m, s, h1, h2, h3, h4⟩ := h
  exact ev_lenL (e := nv) (xs := W.own) (ev_tix ha h1 (k := 0) rfl rfl) h2
/-- world[0][r] -/
theorem ev_wow (h : IsW H a W) (ha : Ev ta σ H (.ref a)) (hb : Ev tb σ H (nv r)) (hr : r < W.n) : Ev (tOp (rIxL K) (tOp (rIxT K) ta (tC (.int 0))) tb) σ H (nv (W.ow r)) := by
  obtain ⟨o, m, s, h1, h2, h3, h4⟩ := h
  exact ev_ix (ev_tix ha h1 (k := 0) rfl rfl) hb h2 (map_getD hr)
/-- world[2][r] -/
theorem evp_wst (h : IsW H a W) (hW : W.Ok) (ha : Ev ta σ H (.ref a)) (hb : Ev tb σ H (nv r)) (hr : r < W.n) : EvP (tOp (rIxL K) (tOp (rIxT K) ta (tC (.int 2))) tb) σ H (fun v H' => ∃ p, v = .ref p ∧ L1 nv H' p (W.st r)) := by
  obtain ⟨o, m, s, h1, h2, h3, h4⟩ := h
  exact evp_row h4 (ev_tix ha h1 (k := 2) rfl rfl) hb (by rw [hW.ls]; exact hr)
theorem ev_wst (h : IsW H a W) (hW : W.Ok) (ha : Ev ta σ H (.ref a)) (hb : Ev tb σ H (nv r)) (hr : r < W.n) : ∃ p, L1 nv H p (W.st r) ∧ Ev (tOp (rIxL K) (tOp (rIxT K) ta (tC (.int 2))) tb) σ H (.ref p) := by
  obtain ⟨o, m, s, h1, h2, h3, h4⟩ := h
  exact ev_row h4 (ev_tix ha h1 (k := 2) rfl rfl) hb (by rw [hW.ls]; exact hr)
/-- world[1][r] -/
theorem ev_wmk (h : IsW H a W) (hW : W.Ok) (ha : Ev ta σ H (.ref a)) (hb : Ev tb σ H (nv r)) (hr : r < W.n) : ∃ p, L1 sv H p (W.mks r) ∧ Ev (tOp (rIxL K) (tOp (rIxT K) ta (tC (.int 1))) tb) σ H (.ref p) := by
  obtain ⟨o, m, s, h1, h2, h3, h4⟩ := h
  exact ev_row h3 (ev_tix ha h1 (k := 1) rfl rfl) hb (by rw [hW.lm]; exact hr)
/-- ranks[r] -/
theorem ev_rg {rk : List (Option Nat)} (h : L1 ov H a rk) (ha : Ev ta σ H (.ref a)) (hb : Ev tb σ H (nv r)) (hr : r < rk.length) : Ev (tOp (rIxL K) ta tb) σ H (ov (rg rk r)) := ev_ix ha hb h (map_getD hr)
end
theorem Wd.Ok.st_len {W : Wd} (h : W.Ok) {r : Nat} (hr : r < W.n) : (W.st r).length ≤ 24 := by
  have := len_le_of_lt (h.st r hr).1.nodup (h.st r hr).2
  have := h.le
  omega
theorem Rising.len {xs : List Nat} {n : Nat} (h : Rising xs) (hl : ∀ x ∈ xs, x < n) : xs.length ≤ n := len_le_of_lt h.nodup hl
/-! ### promises -/
def Rooms (W : Wd) (xs : List Nat) : Prop := Rising xs ∧ ∀ x ∈ xs, x < W.n
def Marks (ms : List Nat) : Prop := Rising ms ∧ ∀ m ∈ ms, m < 6
theorem Rooms.len {W : Wd} {xs : List Nat} (hW : W.Ok) (h : Rooms W xs) : xs.length ≤ 24 := Nat.le_trans (Rising.len h.1 h.2) hW.le
def spRises : Sp := fun vs H Q _ => ∃ a : Addr, vs = [.ref a] ∧ ((∃ xs, L1 nv H a xs ∧ Rising xs ∧ xs.length ≤ 1000) ∨ ∃ ms, L1 sv H a ms ∧ Rising ms ∧ ms.length ≤ 1000) ∧ RetV (.bl true) H Q
def spAreMarks : Sp := fun vs H Q _ => ∃ (a : Addr) (ms : List Nat), vs = [.ref a] ∧ L1 sv H a ms ∧ Marks ms ∧ RetV (.bl true) H Q
def spAreRooms : Sp := fun vs H Q _ => ∃ (a : Addr) (xs : List Nat) (n : Nat), vs = [.ref a, nv n] ∧ L1 nv H a xs ∧ Rising xs ∧ (∀ x ∈ xs, x < n) ∧ n ≤ 24 ∧ RetV (.bl true) H Q
def spIsWorld : Sp := fun vs H Q _ => ∃ (o m s : Addr) (W : Wd), vs = [.ref o, .ref m, .ref s] ∧ L1 nv H o W.own ∧ LL sv H m W.marks ∧ LL nv H s W.steps ∧ W.Ok ∧ RetV (.bl true) H Q
def spAskWorld : Sp := fun vs H Q _ => ∃ (a : Addr) (W : Wd), vs = [.ref a] ∧ IsW H a W ∧ W.Ok ∧ RetV .non H Q
def spAskPlayer : Sp := fun vs H Q _ => ∃ p : Nat, vs = [nv p] ∧ p < 2 ∧ RetV .non H Q
def spAskMarks : Sp := fun vs H Q _ => ∃ (a : Addr) (ms : List Nat), vs = [.ref a] ∧ L1 sv H a ms ∧ Marks ms ∧ RetV .non H Q
def spAskRooms : Sp := fun vs H Q _ => ∃ (a : Addr) (W : Wd) (b : Addr) (xs : List Nat), vs = [.ref a, .ref b] ∧ IsW H a W ∧ W.Ok ∧ L1 nv H b xs ∧ Rooms W xs ∧ RetV .non H Q
def spAskRoom : Sp := fun vs H Q _ => ∃ (a : Addr) (W : Wd) (r : Nat), vs = [.ref a, nv r] ∧ IsW H a W ∧ W.Ok ∧ r < W.n ∧ RetV .non H Q
def spAskFair : Sp := fun vs H Q _ => ∃ (a : Addr) (W : Wd) (b : Addr) (xs : List Nat) (c : Addr) (ms : List Nat), vs = [.ref a, .ref b, .ref c] ∧ IsW H a W ∧ W.Ok ∧ L1 nv H b xs ∧ Rooms W xs ∧ L1 sv H c ms ∧ Marks ms ∧ RetV .non H Q
def spAskGame : Sp := fun vs H Q _ => ∃ (a : Addr) (W : Wd) (p : Nat) (b : Addr) (xs : List Nat), vs = [.ref a, nv p, .ref b] ∧ IsW H a W ∧ W.Ok ∧ p < 2 ∧ L1 nv H b xs ∧ Rooms W xs ∧ RetV .non H Q
def spIsPlan : Sp := fun vs H Q _ => ∃ (a : Addr) (W : Wd) (p : Nat) (b : Addr) (plan : List (Option Nat)), vs = [.ref a, nv p, .ref b] ∧ IsW H a W ∧ W.Ok ∧ p < 2 ∧ L1 ov H b plan ∧ PlanOk W p plan ∧ RetV (.bl true) H Q
def spAskPlan : Sp := fun vs H Q _ => ∃ (a : Addr) (W : Wd) (p : Nat) (b : Addr) (plan : List (Option Nat)), vs = [.ref a, nv p, .ref b] ∧ IsW H a W ∧ W.Ok ∧ p < 2 ∧ L1 ov H b plan ∧ PlanOk W p plan ∧ RetV .non H Q
def spFollow : Sp := fun vs H Q _ => ∃ (a : Addr) (W : Wd) (p : Nat) (b : Addr) (plan : List (Option Nat)), vs = [.ref a, nv p, .ref b] ∧ IsW H a W ∧ W.Ok ∧ p < 2 ∧ L1 ov H b plan ∧ PlanOk W p plan ∧
  RetP (fun v H' => ∃ c, v = .ref c ∧ IsW H' c (W.follow plan)) H Q
def spInner : Sp := fun vs H Q _ => ∃ (a : Addr) (W : Wd) (b : Addr) (xs : List Nat), vs = [.ref a, .ref b] ∧ IsW H a W ∧ W.Ok ∧ L1 nv H b xs ∧ RetP (fun v H' => ∃ c, v = .ref c ∧ LL nv H' c (W.inner xs)) H Q
def spLeading : Sp := fun vs H Q _ => ∃ (a : Addr) (S : List (List Nat)) (b : Addr) (kept : List Nat) (c : Addr) (goal : List Nat), vs = [.ref a, .ref b, .ref c] ∧ LL nv H a S ∧ GOk S ∧ S.length ≤ 24 ∧ L1 nv H b kept ∧ kept.Nodup ∧ (∀ r ∈ kept, r < S.length) ∧ L1 nv H c goal ∧
  RetP (fun v H' => ∃ d ys, v = .ref d ∧ H d = none ∧ L1 nv H' d ys ∧ Rising ys ∧ ∀ y, y ∈ ys ↔ Lead S kept goal y) H Q
def spTaken : Sp := fun vs H Q _ => ∃ (a : Addr) (W : Wd) (b : Addr) (xs : List Nat) (c : Addr) (ms : List Nat), vs = [.ref a, .ref b, .ref c] ∧ IsW H a W ∧ W.Ok ∧ L1 nv H b xs ∧ Rooms W xs ∧ L1 sv H c ms ∧ Marks ms ∧
  RetP (fun v H' => ∃ d x k ys, v = .ref d ∧ H' d = some (.tup [x, .ref k]) ∧ L1 nv H' k ys ∧ FairRes W xs ms ys) H Q
def spFairRooms : Sp := fun vs H Q _ => ∃ (a : Addr) (W : Wd) (b : Addr) (xs : List Nat) (c : Addr) (ms : List Nat), vs = [.ref a, .ref b, .ref c] ∧ IsW H a W ∧ W.Ok ∧ L1 nv H b xs ∧ Rooms W xs ∧ L1 sv H c ms ∧ Marks ms ∧
  RetP (fun v H' => ∃ k ys, v = .ref k ∧ L1 nv H' k ys ∧ FairRes W xs ms ys) H Q
def spCanNow : Sp := fun vs H Q _ => ∃ (a : Addr) (W : Wd) (p r : Nat) (b : Addr) (known : List Nat), vs = [.ref a, nv p, nv r, .ref b] ∧ IsW H a W ∧ W.Ok ∧ r < W.n ∧ L1 nv H b known ∧ RetV (.bl (canNow W p r fun t => decide (t ∈ known))) H Q
def spBrought : Sp := fun vs H Q _ => ∃ (a : Addr) (W : Wd) (p : Nat) (b : Addr) (rooms : List Nat) (c : Addr) (within : List Nat) (d : Addr) (had : List Nat), vs = [.ref a, nv p, .ref b, .ref c, .ref d] ∧ IsW H a W ∧ W.Ok ∧ L1 nv H b rooms ∧ L1 nv H c within ∧ Rooms W within ∧ L1 nv H d had ∧ had.length ≤ 1000 ∧
  RetP (fun v H' => ∃ k rk, v = .ref k ∧ H k = none ∧ L1 ov H' k rk ∧ Brought W p rooms within had rk) H Q
def spDownwards : Sp := fun vs H Q _ => ∃ (a : Addr) (W : Wd) (p : Nat) (b : Addr) (rk : List (Option Nat)), vs = [.ref a, nv p, .ref b] ∧ IsW H a W ∧ W.Ok ∧ L1 ov H b rk ∧ rk.length = W.n ∧
  (∀ r k, rg rk r = some (k + 1) → W.ow r = p → ∃ t ∈ W.st r, ∃ j, rg rk t = some j ∧ j ≤ k) ∧ RetP (fun _ _ => True) H Q
def spBring : Sp := fun vs H Q _ => ∃ (a : Addr) (W : Wd) (p : Nat) (b : Addr) (rooms : List Nat), vs = [.ref a, nv p, .ref b] ∧ IsW H a W ∧ W.Ok ∧ p < 2 ∧ L1 nv H b rooms ∧ Rooms W rooms ∧
  RetP (fun v H' => ∃ c k x rk, v = .ref c ∧ H' c = some (.tup [.ref k, x]) ∧ L1 ov H' k rk ∧ Brought W p rooms (List.range W.n) [] rk) H Q
def spBeyond : Sp := fun vs H Q _ => ∃ (a : Addr) (W : Wd) (b : Addr) (rooms : List Nat), vs = [.ref a, .ref b] ∧ IsW H a W ∧ W.Ok ∧ L1 nv H b rooms ∧ RetP (fun v H' => ∃ c, v = .ref c ∧ L1 nv H' c (beyondOf W rooms)) H Q
def spKeep : Sp := fun vs H Q _ => ∃ (a : Addr) (W : Wd) (p : Nat) (b : Addr) (rooms : List Nat), vs = [.ref a, nv p, .ref b] ∧ IsW H a W ∧ W.Ok ∧ p < 2 ∧ L1 nv H b rooms ∧ Rooms W rooms ∧
  RetP (fun v H' => ∃ c k pl x y kept plan, v = .ref c ∧ H' c = some (.tup [.ref k, .ref pl, x, y]) ∧ L1 nv H' k kept ∧ L1 ov H' pl plan ∧ KeepRes W p rooms kept plan) H Q
def spShutOut : Sp := fun vs H Q _ => ∃ (a : Addr) (W : Wd) (p : Nat) (b : Addr) (rooms : List Nat) (c : Addr) (left : List Nat), vs = [.ref a, nv p, .ref b, .ref c] ∧ IsW H a W ∧ W.Ok ∧ p < 2 ∧ L1 nv H b rooms ∧ L1 nv H c left ∧ Rooms W left ∧
  RetP (fun v H' => ∃ d k l rk lost, v = .ref d ∧ H k = none ∧ H l = none ∧ H' d = some (.tup [.ref k, .ref l]) ∧ L1 ov H' k rk ∧ L1 ov H' l lost ∧ Brought W p rooms left [] rk ∧ Brought W (1 - p) (freeOf left rk) left (beyondOf W left) lost) H Q
def spPlanBy : Sp := fun vs H Q _ => ∃ (a : Addr) (W : Wd) (p : Nat) (b : Addr) (rk : List (Option Nat)), vs = [.ref a, nv p, .ref b] ∧ IsW H a W ∧ W.Ok ∧ L1 ov H b rk ∧ rk.length = W.n ∧
  (∀ r k, rg rk r = some k → W.ow r = p → ∃ t ∈ W.st r, StepTo rk r t) ∧
  RetP (fun v H' => ∃ c plan, v = .ref c ∧ L1 ov H' c plan ∧ plan.length = W.n ∧ (∀ r k, r < W.n → rg rk r = some k → W.ow r = p → ∃ t, rg plan r = some t ∧ t ∈ W.st r ∧ StepTo rk r t) ∧ ∀ r, r < W.n → W.ow r ≠ p ∨ rg rk r = none → rg plan r = none) H Q
/-- turns: None or a pair -/
def LT (H : Hp) (a : Addr) (ts : List (Option (Nat × Nat))) : Prop := ∃ vs : List V, H a = some (.lst vs) ∧ vs.length = ts.length ∧
  ∀ i, i < ts.length → match tg ts i with
    | none => vs[i]? = some .non
    | some q => ∃ p : Addr, vs[i]? = some (.ref p) ∧ H p = some (.tup [nv q.1, nv q.2])
theorem LT.mono {H H' : Hp} {a : Addr} {ts : List (Option (Nat × Nat))} (x : Ex H H') (h : LT H a ts) : LT H' a ts := by
  obtain ⟨vs, h1, h2, h3⟩ := h
  refine ⟨vs, x _ _ h1, h2, fun i hi => ?_⟩
  have := h3 i hi
  cases e : tg ts i with
  | none =>
    rw [e] at this
    exact this
  | some q =>
    rw [e] at this
    obtain ⟨p, h4, h5⟩ := this
    exact ⟨p, h4, x _ _ h5⟩
def spTurnedTo : Sp := fun vs H Q _ => ∃ (a : Addr) (ts : List (Option (Nat × Nat))) (t r : Nat), vs = [.ref a, nv t, nv r] ∧ LT H a ts ∧ t < ts.length ∧ r < ts.length ∧ (tg ts r).isSome = true ∧ RetV (.bl (turnedTo ts t r)) H Q
def spCounterBy : Sp := fun vs H Q _ => ∃ (a : Addr) (W : Wd) (p : Nat) (b : Addr) (ts : List (Option (Nat × Nat))), vs = [.ref a, nv p, .ref b] ∧ IsW H a W ∧ W.Ok ∧ LT H b ts ∧ ts.length = W.n ∧
  (∀ r x, tg ts r = some x → W.ow r = p → ∃ s ∈ W.st r, turnedTo ts s r = true) ∧ RetP (fun _ _ => True) H Q
def spAgain : Sp := fun vs H Q _ => ∃ (a : Addr) (W : Wd) (p : Nat) (b : Addr) (rooms : List Nat), vs = [.ref a, nv p, .ref b] ∧ IsW H a W ∧ W.Ok ∧ p < 2 ∧ L1 nv H b rooms ∧ Rooms W rooms ∧
  RetP (fun v H' => ∃ c k pl x y rk plan, v = .ref c ∧ H' c = some (.tup [.ref k, .ref pl, x, y]) ∧ L1 ov H' k rk ∧ L1 ov H' pl plan ∧ AgainRes W p rooms rk plan) H Q
def markOf (W : Wd) (m : Nat) : List Nat := (List.range W.n).filter fun r => decide (m ∈ W.mks r)
def spMarked : Sp := fun vs H Q _ => ∃ (a : Addr) (W : Wd) (m : Nat), vs = [.ref a, sv m] ∧ IsW H a W ∧ W.Ok ∧ m < 6 ∧ RetP (fun v H' => ∃ c, v = .ref c ∧ L1 nv H' c (markOf W m)) H Q
def IsWy (H : Hp) (a : Addr) (front ring : List Nat) : Prop := ∃ f r : Addr, H a = some (.tup [.ref f, .ref r]) ∧ L1 nv H f front ∧ L1 nv H r ring ∧ front.length ≤ 1000 ∧ ring.length ≤ 1000
theorem IsWy.mono {H H' : Hp} {a : Addr} {front ring : List Nat} (x : Ex H H') (h : IsWy H a front ring) : IsWy H' a front ring := by
  obtain ⟨f, r, h1, h2, h3, h4⟩ := h
  exact ⟨f, r, x _ _ h1, h2.mono x, h3.mono x, h4⟩
def spIsWay : Sp := fun vs H Q _ => ∃ (a : Addr) (W : Wd) (b : Addr) (front ring : List Nat), vs = [.ref a, .ref b] ∧ IsW H a W ∧ W.Ok ∧ IsWy H b front ring ∧ WayOk W front ring ∧ RetV (.bl true) H Q
def spAskWay : Sp := fun vs H Q _ => ∃ (a : Addr) (W : Wd) (b : Addr) (front ring : List Nat), vs = [.ref a, .ref b] ∧ IsW H a W ∧ W.Ok ∧ IsWy H b front ring ∧ WayOk W front ring ∧ RetV .non H Q
def spWayIsFair : Sp := fun vs H Q _ => ∃ (a : Addr) (W : Wd) (b : Addr) (xs : List Nat) (c : Addr) (ms : List Nat) (d : Addr) (front ring : List Nat), vs = [.ref a, .ref b, .ref c, .ref d] ∧ IsW H a W ∧ W.Ok ∧ L1 nv H b xs ∧ Rooms W xs ∧ L1 sv H c ms ∧ Marks ms ∧
  IsWy H d front ring ∧ FairWay W xs ms front ring ∧ RetV (.bl true) H Q
def spWalkTo : Sp := fun vs H Q _ => ∃ (a : Addr) (S : List (List Nat)) (r : Nat) (b : Addr) (goal : List Nat), vs = [.ref a, nv r, .ref b] ∧ LL nv H a S ∧ GOk S ∧ S.length ≤ 24 ∧ r < S.length ∧ L1 nv H b goal ∧ (∃ t ∈ gs S r, ∃ x ∈ goal, Rch S t x) ∧
  RetP (fun v H' => ∃ c p, v = .ref c ∧ L1 nv H' c p ∧ IsWalk S r goal p ∧ p.length ≤ 24) H Q
def spReach : Sp := fun vs H Q _ => ∃ (a : Addr) (S : List (List Nat)) (r : Nat), vs = [.ref a, nv r] ∧ LL nv H a S ∧ GOk S ∧ S.length ≤ 24 ∧ r < S.length ∧ RetP (fun v H' => ∃ c ys, v = .ref c ∧ L1 nv H' c ys ∧ IsReach S r ys ∧ ys.length ≤ 24) H Q
def spFairWay : Sp := fun vs H Q _ => ∃ (a : Addr) (W : Wd) (b : Addr) (xs : List Nat) (c : Addr) (ms : List Nat) (r : Nat), vs = [.ref a, .ref b, .ref c, nv r] ∧ IsW H a W ∧ W.Ok ∧ L1 nv H b xs ∧ Rooms W xs ∧ L1 sv H c ms ∧ Marks ms ∧ (∃ S, Good W xs ms S ∧ S r) ∧
  RetP (fun v H' => ∃ d front ring, v = .ref d ∧ IsWy H' d front ring ∧ FairWay W xs ms front ring) H Q
def cellZ (ns : List Int) (k : Nat) : Int := if k < ns.length then ns.getD k 0 else 0
def divs (z b : Int) : Nat → Int
  | 0 => z
  | k + 1 => divs z b k / b
def drawZ (z : Int) (k b : Nat) : Int :=
  if (10 : Int) ^ 18 ≤ z then divs z b k % b else
    ((((z % 1000000007 + 1009 * (k : Int) + 17) * 69621 % 2147483647) * ((z % 1000000007 + 1009 * (k : Int) + 17) * 69621 % 2147483647) + 40503 * (k : Int) + 5) % 2147483629 * 48271 % 2147483647 / 32) % b
def drawN (z : Int) (k b : Nat) : Nat := (drawZ z k b).toNat
theorem drawZ_bounds {z : Int} {k b : Nat} (hb : 1 ≤ b) : 0 ≤ drawZ z k b ∧ drawZ z k b < b := by
  have hb : (0 : Int) < b := by omega
  unfold drawZ
  split
  · exact ⟨Int.emod_nonneg _ (by omega), Int.emod_lt_of_pos _ hb⟩
  · exact ⟨Int.emod_nonneg _ (by omega), Int.emod_lt_of_pos _ hb⟩
theorem drawN_lt {z : Int} {k b : Nat} (hb : 1 ≤ b) : drawN z k b < b := by
  have := drawZ_bounds (z := z) (k := k) hb
  unfold drawN
  omega
theorem nv_draw {z : Int} {k b : Nat} (hb : 1 ≤ b) : nv (drawN z k b) = .int (drawZ z k b) := by
  have := drawZ_bounds (z := z) (k := k) hb
  unfold drawN
  show V.int _ = V.int _
  congr 1
  omega
def spCell (K : PySem.W.Frag) : Sp := fun vs H Q _ => ∃ (a : Addr) (ns : List Int) (k : Nat), vs = [.ref a, nv k] ∧ SqL K H a (ns.map V.int) ∧ ns.length ≤ 63 ∧ RetV (.int (cellZ ns k)) H Q
def spDraw : Sp := fun vs H Q _ => ∃ (z : Int) (k b : Nat), vs = [.int z, nv k, nv b] ∧ k ≤ 100 ∧ 1 ≤ b ∧ b ≤ 100 ∧ RetV (nv (drawN z k b)) H Q
def spLawWorld (K : PySem.W.Frag) : Sp := fun vs H Q _ => ∃ (a : Addr) (ns : List Int), vs = [.ref a, .int 0, .int 6] ∧ SqL K H a (ns.map V.int) ∧ ns.length ≤ 63 ∧ RetP (fun v H' => ∃ c W, v = .ref c ∧ IsW H' c W ∧ W.Ok ∧ W.n ≤ 6) H Q
def spLawRooms : Sp := fun vs H Q _ => ∃ (z : Int) (n : Nat), vs = [.int z, nv n] ∧ n ≤ 24 ∧ RetP (fun v H' => ∃ c xs, v = .ref c ∧ L1 nv H' c xs ∧ Rising xs ∧ ∀ x ∈ xs, x < n) H Q
def spLaw (K : PySem.W.Frag) : Sp := fun vs H Q _ => ∃ (a : Addr) (ns : List Int), vs = [.ref a] ∧ SqL K H a (ns.map V.int) ∧ ns.length ≤ 63 ∧ ∀ H', Q (.bl true) H'
end FH
namespace FH
open PySem PySem.Spec PyProof.Rows L2 Evl
section
variable {K : PySem.W.Frag}
theorem rising_at {xs : List Nat} (h : Rising xs) {i : Nat} (hi : i + 1 < xs.length) : xs.getD i 0 < xs.getD (i + 1) 0 := by
  rw [List.getD_eq_getElem?_getD, List.getD_eq_getElem?_getD, List.getElem?_eq_getElem hi, List.getElem?_eq_getElem (by omega)]
  exact List.pairwise_iff_getElem.mp h i (i + 1) (by omega) hi (by omega)
theorem p_rises (vs : List V) (H : Hp) (Q : VK) (E : XK) (h : spRises vs H Q E) : (t_risesI K { nx := fun _ H' => Q .non H', rt := Q } (start N_rises vs) H) ∨ (t_risesS K { nx := fun _ H' => Q .non H', rt := Q } (start N_rises vs) H) := by
  obtain ⟨a, rfl, h, q⟩ := h
  rcases h with ⟨xs, h, hr, hl⟩ | ⟨xs, h, hr, hl⟩
  · left
    refine q_forR2 (σ := [some (.ref a), none]) (lo := 1) (n := (xs.length : Int)) (ea2 ev_c (ev_lenL (ev_var rfl) h)) ⟨by omega, by omega, by omega, by omega⟩ (fun i σ' H' => ∃ v, σ' = [some (.ref a), v] ∧ Ex H H') (fun H1 e => ⟨_, rfl, e⟩) ?_ ?_
    · rintro i σ' H' hi ⟨v, rfl, e⟩
      have ek : V.int (1 + (i : Int)) = nv (i + 1) := by
        show V.int _ = V.int _
        congr 1
        omega
      rw [ek]
      have hi' : i + 1 < xs.length := by omega
      have hx := h.mono e
      refine s_ifF (b := decide ((nv (xs.getD (i + 1) 0) = nv (xs.getD (i + 1) 0)) ∧ xs.getD (i + 1) 0 ≤ xs.getD i 0)) ?_ (et_is (et_test (ev_op (x := nv (xs.getD i 0)) (y := nv (xs.getD (i + 1) 0)) (ev_ix (k := i) (ev_var rfl) (ev_minus (a := i + 1) (b := 1) (by omega) (ev_var rfl) ev_c) hx (map_getD (by omega))) (ev_ix (ev_var rfl) (ev_var rfl) hx (map_getD hi')) rv_I0)) ?_) fun H1 e1 => ⟨_, rfl, e.trans e1⟩
      · have := rising_at hr hi'
        exact decide_eq_false fun z => by omega
      · rw [Bool.eq_iff_iff, decide_eq_true_eq, decide_eq_true_eq, Int.ofNat_le]
        simp
    · rintro σ' H' ⟨v, rfl, e⟩
      exact s_ret ev_c fun H1 e1 => q H1 (e.trans e1)
  · right
    refine q_forR2 (σ := [some (.ref a), none]) (lo := 1) (n := (xs.length : Int)) (ea2 ev_c (ev_lenL (ev_var rfl) h)) ⟨by omega, by omega, by omega, by omega⟩ (fun i σ' H' => ∃ v, σ' = [some (.ref a), v] ∧ Ex H H') (fun H1 e => ⟨_, rfl, e⟩) ?_ ?_
    · rintro i σ' H' hi ⟨v, rfl, e⟩
      have ek : V.int (1 + (i : Int)) = nv (i + 1) := by
        show V.int _ = V.int _
        congr 1
        omega
      rw [ek]
      have hi' : i + 1 < xs.length := by omega
      have hx := h.mono e
      refine s_ifF (b := !decide ((sgn (xs.getD i 0)).cps.toList < (sgn (xs.getD (i + 1) 0)).cps.toList)) ?_ (et_test (ev_op (x := sv (xs.getD i 0)) (y := sv (xs.getD (i + 1) 0)) (ev_ix (k := i) (ev_var rfl) (ev_minus (a := i + 1) (b := 1) (by omega) (ev_var rfl) ev_c) hx (map_getD (by omega))) (ev_ix (ev_var rfl) (ev_var rfl) hx (map_getD hi'))
        (fun H1 _ Q q => ⟨_, _, rfl, rfl, q H1 (Ex.refl H1)⟩))) fun H1 e1 => ⟨_, rfl, e.trans e1⟩
      have := rising_at hr hi'
      rw [decide_eq_true, Bool.not_true]
      show [97 + xs.getD i 0] < [97 + xs.getD (i + 1) 0]
      exact List.Lex.rel (by omega)
    · rintro σ' H' ⟨v, rfl, e⟩
      exact s_ret ev_c fun H1 e1 => q H1 (e.trans e1)
theorem p_are_marks (vs : List V) (H : Hp) (Q : VK) (E : XK) (h : spAreMarks vs H Q E) : t_are_marks K spRises { nx := fun _ H' => Q .non H', rt := Q } (start N_are_marks vs) H := by
  obtain ⟨a, ms, rfl, h, hm, q⟩ := h
  have hl : ms.length ≤ 6 := hm.1.len hm.2
  show tRet _ _ [some (.ref a), none] H
  refine s_ret (v := .bl ((ms.all fun _ => true) && true)) (ev_andV (ev_all (el_map (evp_ref (ev_var rfl) h) (by omega) (fun _ => rfl) fun x H1 hx e1 => ?_)) fun _ => evc (ea1 (ev_var rfl)) fun H2 e2 Q q _ => ⟨a, rfl, .inr ⟨ms, h.mono e2, hm.1, by omega⟩, q⟩) fun H1 e1 => ?_
  · refine ev_is (ev_andV (a := true) (b := true) (ev_is (ev_op (ev_cb (ea1 (ev_var rfl)) (z := .int 1) fun H1 _ Q q => ⟨_, rfl, by show 1 ≤ sizeLine; decide, q H1 (Ex.refl H1)⟩) ev_c (rv_eq rfl)) rfl) fun _ => ev_op (x := sv x) (ev_var rfl) ev_c fun H1 _ Q q => ⟨97 + x, _, rfl, rfl, ?_⟩) rfl
    have hx6 := hm.2 x hx
    have : decide (97 + x ∈ (("abcdef" : Str).cps.toList)) = true := by
      have : x = 0 ∨ x = 1 ∨ x = 2 ∨ x = 3 ∨ x = 4 ∨ x = 5 := by omega
      rcases this with rfl | rfl | rfl | rfl | rfl | rfl <;> decide +kernel
    rw [this]
    exact q H1 (Ex.refl H1)
  · have : (ms.all fun _ => true) = true := List.all_eq_true.mpr fun _ _ => rfl
    rw [this]
    exact q H1 e1
theorem p_are_rooms (vs : List V) (H : Hp) (Q : VK) (E : XK) (h : spAreRooms vs H Q E) : t_are_rooms K spRises { nx := fun _ H' => Q .non H', rt := Q } (start N_are_rooms vs) H := by
  obtain ⟨a, xs, n, rfl, h, hr, hlt, hn, q⟩ := h
  have hl : xs.length ≤ n := hr.len hlt
  show tRet _ _ [some (.ref a), some (nv n), none] H
  refine s_ret (v := .bl ((xs.all fun x => decide (x < n)) && true)) (ev_andV (ev_all (el_map (evp_ref (ev_var rfl) h) (by omega) (fun _ => rfl) fun x H1 hx e1 => ev_zlt (ev_var rfl) (ev_var rfl))) fun _ => evc (ea1 (ev_var rfl)) fun H2 e2 Q q _ => ⟨a, rfl, .inl ⟨xs, h.mono e2, hr, by omega⟩, q⟩) fun H1 e1 => ?_
  have : (xs.all fun x => decide (x < n)) = true := List.all_eq_true.mpr fun x hx => decide_eq_true (hlt x hx)
  rw [this]
  exact q H1 e1
theorem ev_not01 {σ : L2.St} {H : Hp} {te : TE} {p : Nat} (h : Ev te σ H (nv p)) (hp : p < 2) : Ev (tOp (rIn K true) te (tTup (tCons (tC (.int 0)) (tCons (tC (.int 1)) tNil)))) σ H (.bl false) := by
  refine ev_is (ev_niU h (eu_tup (ea2 ev_c ev_c) (by show 2 ≤ 100000; decide)) rfl rfl) (congrArg V.bl ?_)
  show (!inV (nv p) ([0, 1].map nv)) = false
  rw [inV_nv, decide_eq_true (by simp; omega)]
  rfl
theorem p_is_world (vs : List V) (H : Hp) (Q : VK) (E : XK) (h : spIsWorld vs H Q E) : t_is_world K spAreMarks spAreRooms { nx := fun _ H' => Q .non H', rt := Q } (start N_is_world vs) H := by
  obtain ⟨o, m, s, W, rfl, h1, h2, h3, hW, q⟩ := h
  show tSeq _ _ _ [some (.ref o), some (.ref m), some (.ref s), none, none] H
  refine q_asg (v := nv W.n) (ev_lenL (xs := W.own) (ev_var rfl) h1) fun H1 e1 => ?_
  refine q_ifF (b := !(decide (1 ≤ W.n) && decide (W.n ≤ 24)) || (decide (W.n ≠ W.n) || decide (W.n ≠ W.n))) ?_ (et_or (et_not (et_is (et_test (ev_chain (x := .int 1) (y := nv W.n) (z := .int 24) ev_c (ev_var rfl) rv_I0 (fun _ => ev_c) fun _ => rv_I0)) ?_)) fun _ =>
    et_or (et_test (ev_neN (ev_is (ev_lenLL (h2.mono e1) (ev_var rfl)) (by rw [hW.lm])) (ev_var rfl))) fun _ => et_test (ev_neN (ev_is (ev_lenLL (h3.mono e1) (ev_var rfl)) (by rw [hW.ls])) (ev_var rfl))) fun H2 e2 => ?_
  · have := hW.pos
    have := hW.le
    simp
    omega
  · have h1 := hW.pos
    have h2 := hW.le
    rw [decide_eq_true h1, decide_eq_true h2, decide_eq_true (show (1 : Int) ≤ (W.n : Int) by omega), decide_eq_true (show (W.n : Int) ≤ 24 by omega)]
  refine q_forR1 (n := (W.n : Int)) (ea1 (ev_var rfl)) ⟨by omega, by have := hW.le; omega⟩ (fun i σ' H' => ∃ v, σ' = [some (.ref o), some (.ref m), some (.ref s), some (nv W.n), v] ∧ Ex H H') (fun H3 e3 => ⟨_, rfl, (e1.trans e2).trans e3⟩) ?_ ?_
  · rintro r σ' H' hr ⟨v, rfl, e⟩
    have hr : r < W.n := by omega
    refine q_ifF (b := false || !true) rfl (et_or (et_test (ev_not01 (p := W.ow r) (ev_ix (ev_var rfl) (ev_var rfl) (h1.mono e) (map_getD hr)) (hW.ow r hr))) fun _ => et_not (et_B ?_)) fun H3 e3 => ?_
    · obtain ⟨p, hp, hev⟩ := ev_row (K := K) (σ := [some (.ref o), some (.ref m), some (.ref s), some (nv W.n), some (nv r)]) (ta := tVar 1) (tb := tVar 4) (h2.mono e) (ev_var rfl) (ev_var rfl) (by rw [hW.lm]; exact hr)
      exact evc (ea1 hev) fun H2 e2 Q q _ => ⟨p, W.mks r, rfl, hp.mono e2, ⟨(hW.mks r hr).1, (hW.mks r hr).2⟩, q⟩
    · have e' := e.trans e3
      obtain ⟨p, hp, hev⟩ := ev_row (K := K) (σ := [some (.ref o), some (.ref m), some (.ref s), some (nv W.n), some (nv r)]) (ta := tVar 2) (tb := tVar 4) (h3.mono e') (ev_var rfl) (ev_var rfl) (by rw [hW.ls]; exact hr)
      refine s_ifF (b := decide ((W.st r).length = 0) || !true) ?_ (et_or (et_test (ev_eqN (ev_lenL hev hp) ev_c)) fun _ => et_not (et_B (evc (ea2 hev (ev_var rfl)) fun H2 e2 Q q _ => ⟨p, W.st r, W.n, rfl, hp.mono e2, (hW.st r hr).1, (hW.st r hr).2, hW.le, q⟩))) fun H4 e4 => ⟨_, rfl, e'.trans e4⟩
      have : (W.st r).length ≠ 0 := fun z => hW.ne r hr (List.length_eq_zero_iff.mp z)
      simp [this]
  · rintro σ' H' ⟨v, rfl, e⟩
    exact s_ret ev_c fun H3 e3 => q H3 (e.trans e3)
theorem p_ask_world (vs : List V) (H : Hp) (Q : VK) (E : XK) (h : spAskWorld vs H Q E) : t_ask_world K spIsWorld { nx := fun _ H' => Q .non H', rt := Q } (start N_ask_world vs) H := by
  obtain ⟨a, W, rfl, h, hW, q⟩ := h
  obtain ⟨o, m, s, h1, h2, h3, h4⟩ := h
  show tIfS _ _ _ _ [some (.ref a)] H
  exact s_ifF (b := !true) rfl (et_not (et_B (evc (ea3 (ev_tix (ev_var rfl) h1 (k := 0) rfl rfl) (ev_tix (ev_var rfl) h1 (k := 1) rfl rfl) (ev_tix (ev_var rfl) h1 (k := 2) rfl rfl)) fun H2 e2 Q q _ => ⟨o, m, s, W, rfl, h2.mono e2, h3.mono e2, h4.mono e2, hW, q⟩))) fun H1 e1 => q H1 e1
theorem p_ask_player (vs : List V) (H : Hp) (Q : VK) (E : XK) (h : spAskPlayer vs H Q E) : t_ask_player K { nx := fun _ H' => Q .non H', rt := Q } (start N_ask_player vs) H := by
  obtain ⟨p, rfl, hp, q⟩ := h
  show tIfS _ _ _ _ [some (nv p)] H
  exact s_ifF rfl (et_test (ev_not01 (ev_var rfl) hp)) fun H1 e1 => q H1 e1
theorem p_ask_marks (vs : List V) (H : Hp) (Q : VK) (E : XK) (h : spAskMarks vs H Q E) : t_ask_marks K spAreMarks { nx := fun _ H' => Q .non H', rt := Q } (start N_ask_marks vs) H := by
  obtain ⟨a, ms, rfl, h, hm, q⟩ := h
  show tIfS _ _ _ _ [some (.ref a)] H
  exact s_ifF (b := !true) rfl (et_not (et_B (evc (ea1 (ev_var rfl)) fun H2 e2 Q q _ => ⟨a, ms, rfl, h.mono e2, hm, q⟩))) fun H1 e1 => q H1 e1
theorem p_ask_rooms (vs : List V) (H : Hp) (Q : VK) (E : XK) (h : spAskRooms vs H Q E) : t_ask_rooms K spAreRooms { nx := fun _ H' => Q .non H', rt := Q } (start N_ask_rooms vs) H := by
  obtain ⟨a, W, b, xs, rfl, h, hW, hb, hr, q⟩ := h
  show tIfS _ _ _ _ [some (.ref a), some (.ref b)] H
  exact s_ifF (b := !true) rfl (et_not (et_B (evc (ea2 (ev_var rfl) (ev_wn h (ev_var rfl))) fun H2 e2 Q q _ => ⟨b, xs, W.n, rfl, hb.mono e2, hr.1, hr.2, hW.le, q⟩))) fun H1 e1 => q H1 e1
theorem p_ask_room (vs : List V) (H : Hp) (Q : VK) (E : XK) (h : spAskRoom vs H Q E) : t_ask_room K { nx := fun _ H' => Q .non H', rt := Q } (start N_ask_room vs) H := by
  obtain ⟨a, W, r, rfl, h, hW, hr, q⟩ := h
  show tIfS _ _ _ _ [some (.ref a), some (nv r)] H
  exact s_ifF (b := !decide (r < W.n)) (by rw [decide_eq_true hr]; rfl) (et_not (et_test (ev_zlt (ev_var rfl) (ev_wn h (ev_var rfl))))) fun H1 e1 => q H1 e1
theorem p_ask_fair (vs : List V) (H : Hp) (Q : VK) (E : XK) (h : spAskFair vs H Q E) : t_ask_fair K spAskWorld spAskMarks spAskRooms { nx := fun _ H' => Q .non H', rt := Q } (start N_ask_fair vs) H := by
  obtain ⟨a, W, b, xs, c, ms, rfl, h, hW, hb, hr, hc, hm, q⟩ := h
  show tSeq _ _ _ [some (.ref a), some (.ref b), some (.ref c)] H
  refine q_drop (evc (ea1 (ev_var rfl)) fun H2 e2 Q q _ => ⟨a, W, rfl, h.mono e2, hW, q⟩) fun H1 e1 => ?_
  refine q_drop (evc (ea1 (ev_var rfl)) fun H2 e2 Q q _ => ⟨c, ms, rfl, hc.mono (e1.trans e2), hm, q⟩) fun H2 e2 => ?_
  exact s_drop (evc (ea2 (ev_var rfl) (ev_var rfl)) fun H3 e3 Q q _ => ⟨a, W, b, xs, rfl, h.mono ((e1.trans e2).trans e3), hW, hb.mono ((e1.trans e2).trans e3), hr, q⟩) fun H3 e3 => q H3 ((e1.trans e2).trans e3)
theorem p_ask_game (vs : List V) (H : Hp) (Q : VK) (E : XK) (h : spAskGame vs H Q E) : t_ask_game K spAskWorld spAskPlayer spAskRooms { nx := fun _ H' => Q .non H', rt := Q } (start N_ask_game vs) H := by
  obtain ⟨a, W, p, b, xs, rfl, h, hW, hp, hb, hr, q⟩ := h
  show tSeq _ _ _ [some (.ref a), some (nv p), some (.ref b)] H
  refine q_drop (evc (ea1 (ev_var rfl)) fun H2 e2 Q q _ => ⟨a, W, rfl, h.mono e2, hW, q⟩) fun H1 e1 => ?_
  refine q_drop (evc (ea1 (ev_var rfl)) fun H2 e2 Q q _ => ⟨p, rfl, hp, q⟩) fun H2 e2 => ?_
  exact s_drop (evc (ea2 (ev_var rfl) (ev_var rfl)) fun H3 e3 Q q _ => ⟨a, W, b, xs, rfl, h.mono ((e1.trans e2).trans e3), hW, hb.mono ((e1.trans e2).trans e3), hr, q⟩) fun H3 e3 => q H3 ((e1.trans e2).trans e3)
end
end FH
namespace FH
open PySem PySem.Spec PyProof.Rows L2 Evl
section
variable {K : PySem.W.Frag}
/-- a list at l that grows by lists -/
def Gr (e : Nat → V) (H0 H : Hp) (l : Addr) (xss : List (List Nat)) : Prop := H0 l = none ∧ Ex H0 H ∧ ∃ ps : List Addr, H l = some (.lst (ps.map V.ref)) ∧ ps.length = xss.length ∧
  ∀ (i : Nat) (p : Addr) (xs : List Nat), ps[i]? = some p → xss[i]? = some xs → p ≠ l ∧ L1 e H p xs
theorem Gr.start {e : Nat → V} {H0 H : Hp} {l : Addr} (h : H0 l = none) (x : Ex H0 H) (hl : H l = some (.lst [])) : Gr e H0 H l [] := ⟨h, x, [], hl, rfl, fun i p xs hi => by simp at hi⟩
theorem Gr.mono {e : Nat → V} {H0 H H' : Hp} {l : Addr} {xss : List (List Nat)} (x : Ex H H') (g : Gr e H0 H l xss) : Gr e H0 H' l xss := by
  obtain ⟨h1, h2, ps, h3, h4, h5⟩ := g
  exact ⟨h1, h2.trans x, ps, x _ _ h3, h4, fun i p xs hi hx => ⟨(h5 i p xs hi hx).1, (h5 i p xs hi hx).2.mono x⟩⟩
theorem Gr.add {e : Nat → V} {H0 H : Hp} {l p : Addr} {xss : List (List Nat)} {xs : List Nat} {vs : List V} (g : Gr e H0 H l xss) (hp : p ≠ l) (h : L1 e H p xs) (hv : H l = some (.lst vs)) : Gr e H0 (upd H l (.lst (vs ++ [.ref p]))) l (xss ++ [xs]) := by
  obtain ⟨h1, h2, ps, h3, h4, h5⟩ := g
  rw [h3] at hv
  cases hv
  refine ⟨h1, Ex.mut h2 h1, ps ++ [p], by rw [upd_same, List.map_append]; rfl, by rw [List.length_append, List.length_append, h4]; rfl, fun i q ys hi hy => ?_⟩
  by_cases hlt : i < ps.length
  · rw [List.getElem?_append_left hlt] at hi
    rw [List.getElem?_append_left (by omega)] at hy
    obtain ⟨a1, a2⟩ := h5 i q ys hi hy
    exact ⟨a1, by show upd _ _ _ _ = _; rw [upd_ne a1]; exact a2⟩
  · rw [List.getElem?_append_right (by omega)] at hi hy
    have e1 : i - ps.length = 0 := by
      have := (List.getElem?_eq_some_iff.mp hi).1
      simp at this
      omega
    rw [e1] at hi
    rw [show i - xss.length = 0 by omega] at hy
    cases hi
    cases hy
    exact ⟨hp, by show upd _ _ _ _ = _; rw [upd_ne hp]; exact h⟩
theorem Gr.ll {e : Nat → V} {H0 H : Hp} {l : Addr} {xss : List (List Nat)} (g : Gr e H0 H l xss) : LL e H l xss := by
  obtain ⟨h1, h2, ps, h3, h4, h5⟩ := g
  exact ⟨ps, h3, h4, fun i p xs hi hx => (h5 i p xs hi hx).2⟩
theorem Gr.at {e : Nat → V} {H0 H : Hp} {l : Addr} {xss : List (List Nat)} (g : Gr e H0 H l xss) : ∃ vs : List V, H l = some (.lst vs) ∧ vs.length = xss.length := by
  obtain ⟨h1, h2, ps, h3, h4, h5⟩ := g
  exact ⟨_, h3, by rw [List.length_map, h4]⟩
/-- found.append(a new list) -/
theorem s_gr {e : Nat → V} {σ : L2.St} {D : Ends} {H0 H : Hp} {l : Addr} {xss : List (List Nat)} {xs : List Nat} {ta te : TE} (g : Gr e H0 H l xss) (ha : Ev ta σ H (.ref l)) (h : EvL te σ H (xs.map e)) (hz : xss.length ≤ 1000) (k : ∀ H', Gr e H0 H' l (xss ++ [xs]) → D.nx σ H') :
    tDrop (tBM K "list" rAppend ta (tCons te tNil)) D σ H := by
  obtain ⟨vs, hv, hl⟩ := g.at
  exact s_appL hv ha h (by omega) fun p H1 hp e1 hx => k _ ((g.mono e1).add (ne_of_none hv hp).symm hx (e1 _ _ hv))
theorem p_is_plan (vs : List V) (H : Hp) (Q : VK) (E : XK) (h : spIsPlan vs H Q E) : t_is_plan K spAskWorld spAskPlayer { nx := fun _ H' => Q .non H', rt := Q } (start N_is_plan vs) H := by
  obtain ⟨a, W, p, b, plan, rfl, h, hW, hp, hb, hP, q⟩ := h
  show tSeq _ _ _ [some (.ref a), some (nv p), some (.ref b), none] H
  refine q_drop (evc (ea1 (ev_var rfl)) fun H2 e2 Q q _ => ⟨a, W, rfl, h.mono e2, hW, q⟩) fun H1 e1 => ?_
  refine q_drop (evc (ea1 (ev_var rfl)) fun H2 e2 Q q _ => ⟨p, rfl, hp, q⟩) fun H2 e2 => ?_
  have h2 := h.mono (e1.trans e2)
  have hb2 := hb.mono (e1.trans e2)
  refine q_ifF (b := decide (plan.length ≠ W.n)) (by rw [hP.len]; simp) (et_test (ev_neN (ev_lenL (ev_var rfl) hb2) (ev_wn h2 (ev_var rfl)))) fun H3 e3 => ?_
  have hle := hW.le
  have hlen := hP.len
  refine q_forR1 (n := (plan.length : Int)) (ea1 (ev_lenL (ev_var rfl) (hb2.mono e3))) ⟨by omega, by omega⟩ (fun i σ' H' => ∃ v, σ' = [some (.ref a), some (nv p), some (.ref b), v] ∧ Ex H H') (fun H4 e4 => ⟨_, rfl, ((e1.trans e2).trans e3).trans e4⟩) ?_ ?_
  · rintro r σ' H' hr ⟨v, rfl, e⟩
    have hr : r < plan.length := by omega
    have hr' : r < W.n := by omega
    have hx := h.mono e
    cases hg : rg plan r with
    | none => exact s_ifF (b := false && true) rfl (et_and (et_is (et_test (ev_notNO (o := rg plan r) (ev_rg (hb.mono e) (ev_var rfl) (ev_var rfl) hr))) (by rw [hg]; rfl)) fun z => by cases z) fun H4 e4 => ⟨_, rfl, e.trans e4⟩
    | some t =>
      obtain ⟨h5, h6⟩ := hP.ok r t hg
      obtain ⟨s, hs, hev⟩ := ev_wst (K := K) (σ := [some (.ref a), some (nv p), some (.ref b), some (nv r)]) (ta := tVar 0) (tb := tVar 3) hx hW (ev_var rfl) (ev_var rfl) hr'
      refine s_ifF (b := true && (decide (W.ow r ≠ p) || decide (t ∉ W.st r))) (by simp [h5, h6]) (et_and (et_is (et_test (ev_notNO (o := rg plan r) (ev_rg (hb.mono e) (ev_var rfl) (ev_var rfl) hr))) (by rw [hg]; rfl)) fun _ =>
        et_or (et_test (ev_neN (ev_wow hx (ev_var rfl) (ev_var rfl) hr') (ev_var rfl))) fun _ => et_test (ev_niN (ev_is (ev_rg (hb.mono e) (ev_var rfl) (ev_var rfl) hr) (by rw [hg]; rfl)) hev hs)) fun H4 e4 => ⟨_, rfl, e.trans e4⟩
  · rintro σ' H' ⟨v, rfl, e⟩
    exact s_ret ev_c fun H4 e4 => q H4 (e.trans e4)
theorem p_ask_plan (vs : List V) (H : Hp) (Q : VK) (E : XK) (h : spAskPlan vs H Q E) : t_ask_plan K spIsPlan { nx := fun _ H' => Q .non H', rt := Q } (start N_ask_plan vs) H := by
  obtain ⟨a, W, p, b, plan, rfl, h, hW, hp, hb, hP, q⟩ := h
  show tIfS _ _ _ _ [some (.ref a), some (nv p), some (.ref b)] H
  exact s_ifF (b := !true) rfl (et_not (et_B (evc (ea3 (ev_var rfl) (ev_var rfl) (ev_var rfl)) fun H2 e2 Q q _ => ⟨a, W, p, b, plan, rfl, h.mono e2, hW, hp, hb.mono e2, hP, q⟩))) fun H1 e1 => q H1 e1
theorem map_range_succ {α : Type} {f : Nat → α} {i : Nat} : (List.range (i + 1)).map f = (List.range i).map f ++ [f i] := by
  rw [List.range_succ, List.map_append]
  rfl
theorem copy_lists {σ : L2.St} {H : Hp} {e : Nat → V} {xss : List (List Nat)} {a : Addr} {j : Nat} {tl : TE} (h : LL e H a xss) (ha : Ev tl σ H (.ref a)) (hz : xss.length ≤ 1000) (hw : ∀ x, wipe ((wipe σ [j]).set j (some x)) [j] = wipe σ [j]) (hj : ∀ x, ((wipe σ [j]).set j (some x))[j]? = some (some x)) :
    EvP (tLc (iList K tl) (gName j) tYes (tCB (rListS K) (tCons (tVar j) tNil)) [j]) σ H (fun v H' => ∃ c, v = .ref c ∧ LL e H' c xss) := by
  obtain ⟨as, h1, h2, h3⟩ := h
  refine EvP.imp (EvR.P (er_new (e := V.ref) (l := as) (fun p o => ∃ xs, L1 e H p xs ∧ o = .lst (xs.map e)) (evp_ref ha h1) (by omega) hw fun p H1 hp e1 => ?_)) ?_
  · obtain ⟨i, hi⟩ := List.getElem?_of_mem hp
    have hil := (List.getElem?_eq_some_iff.mp hi).1
    have hx := h3 i p (xss[i]'(by omega)) hi (List.getElem?_eq_getElem _)
    intro H2 e2 Q q
    exact el_list (K := K) (ev_var (hj _)) (sq_of (hx.mono e1)) H2 e2 Q fun r H3 hr e3 h3 => q r _ H3 hr e3 h3 ⟨_, hx, rfl⟩
  · rintro v H1 e1 ⟨c, rfl, ps, p1, p2, p3⟩
    refine ⟨c, rfl, ps, p1, by omega, fun i r xs hr hx => ?_⟩
    have hil : i < as.length := by
      have := (List.getElem?_eq_some_iff.mp hx).1
      omega
    obtain ⟨_, o, h5, ys, h6, rfl⟩ := p3 i as[i] r (List.getElem?_eq_getElem hil) hr
    have h7 := h3 i as[i] xs (List.getElem?_eq_getElem hil) hx
    have : ys.map e = xs.map e := by
      have h8 : some (HO.lst (ys.map e)) = some (HO.lst (xs.map e)) := h6.symm.trans h7
      injection h8 with h8
      injection h8
    show H1 r = some (.lst (xs.map e))
    rw [h5, this]
theorem p_follow (vs : List V) (H : Hp) (Q : VK) (E : XK) (h : spFollow vs H Q E) : t_follow K spAskPlan { nx := fun _ H' => Q .non H', rt := Q } (start N_follow vs) H := by
  obtain ⟨a, W, p, b, plan, rfl, h, hW, hp, hb, hP, q⟩ := h
  show tSeq _ _ _ [some (.ref a), some (nv p), some (.ref b), none, none, none] H
  refine q_drop (evc (ea3 (ev_var rfl) (ev_var rfl) (ev_var rfl)) fun H2 e2 Q q _ => ⟨a, W, p, b, plan, rfl, h.mono e2, hW, hp, hb.mono e2, hP, q⟩) fun H1 e1 => ?_
  refine q_asgL (el_lst ea_nil (Nat.zero_le _)) fun l H2 hl e2 hL => ?_
  have hle := hW.le
  refine q_forR1 (n := (W.n : Int)) (ea1 (ev_wn (h.mono (e1.trans e2)) (ev_var rfl))) ⟨by omega, by omega⟩ (fun i σ' H' => ∃ v, σ' = [some (.ref a), some (nv p), some (.ref b), some (.ref l), v, none] ∧ Gr nv H1 H' l ((List.range i).map fun r => (W.follow plan).st r)) (fun H3 e3 => ⟨_, rfl, (Gr.start hl e2 hL).mono e3⟩) ?_ ?_
  · rintro r σ' H' hr ⟨v, rfl, g⟩
    have hr : r < W.n := by omega
    have e := e1.trans g.2.1
    have hx := h.mono e
    have hrk : r < plan.length := by rw [hP.len]; exact hr
    refine s_if (et_test (ev_isNO (ev_rg (hb.mono e) (ev_var rfl) (ev_var rfl) hrk))) (fun hn H3 e3 => ?_) (fun hn H3 e3 => ?_)
    · rw [Option.isNone_iff_eq_none] at hn
      obtain ⟨s, hs, hev⟩ := ev_wst (K := K) (σ := [some (.ref a), some (nv p), some (.ref b), some (.ref l), some (nv r), none]) (ta := tVar 0) (tb := tVar 4) (hx.mono e3) hW (ev_var rfl) (ev_var rfl) hr
      refine s_gr (xs := W.st r) (g.mono e3) (ev_var rfl) (el_list hev (sq_of hs)) (by simp; omega) fun H4 g4 => ⟨_, rfl, ?_⟩
      rw [map_range_succ, follow_none hr hn]
      exact g4
    · cases hg : rg plan r with
      | none => rw [hg] at hn; cases hn
      | some t =>
        refine s_gr (xs := [t]) (g.mono e3) (ev_var rfl) (el_lst (ea1 (ev_is (ev_rg (hb.mono (e.trans e3)) (ev_var rfl) (ev_var rfl) hrk) (by rw [hg]; rfl))) (by show 1 ≤ 100000; decide)) (by simp; omega) fun H4 g4 => ⟨_, rfl, ?_⟩
        rw [map_range_succ, follow_some hr hg]
        exact g4
  · rintro σ' H' ⟨v, rfl, g⟩
    have e := e1.trans g.2.1
    have hfin : (List.range ((W.n : Int)).toNat).map (fun r => (W.follow plan).st r) = (W.follow plan).steps := by
      rw [show ((W.n : Int)).toNat = W.n by omega]
      show _ = (List.range W.n).map _
      exact List.map_congr_left fun r hr => follow_st (List.mem_range.mp hr)
    rw [hfin] at g
    obtain ⟨o, m, s, h1, h2, h3, h4⟩ := h.mono e
    have hlm := hW.lm
    refine s_retP (evp_tup (Ξ := fun vs H' => ∃ x y, vs = [.ref x, .ref y, .ref l] ∧ L1 nv H' x W.own ∧ LL sv H' y W.marks ∧ LL nv H' l (W.follow plan).steps) (fun vs H1 H2 x ⟨x1, y1, k1, k2, k3, k4⟩ => ⟨x1, y1, k1, k2.mono x, k3.mono x, k4.mono x⟩) ?_ ?_) ?_
    · refine fun H3 e3 Q k => eap_cons (Φ := fun v H' => ∃ x, v = .ref x ∧ L1 nv H' x W.own) (fun v H1 H2 x ⟨y, k1, k2⟩ => ⟨y, k1, k2.mono x⟩) (evp_new (el_list (ev_tix (ev_var rfl) h1 (k := 0) rfl rfl) (sq_of h2)))
        (eap_cons (Φ := fun v H' => ∃ y, v = .ref y ∧ LL sv H' y W.marks) (fun v H1 H2 x ⟨y, k1, k2⟩ => ⟨y, k1, k2.mono x⟩) (copy_lists h3 (ev_tix (ev_var rfl) h1 (k := 1) rfl rfl) (by omega) (fun _ => rfl) fun _ => rfl)
          (eap_cons (Φ := fun v H' => v = .ref l ∧ LL nv H' l (W.follow plan).steps) (fun v H1 H2 x ⟨k1, k2⟩ => ⟨k1, k2.mono x⟩) ((EvP.of (ev_var rfl)).imp fun v H2 e2 hv => ⟨hv, g.ll.mono e2⟩) eap_nil)) H3 e3 Q fun vs H4 e4 hx => k vs H4 e4 ?_
      obtain ⟨v1, r1, rfl, ⟨x, rfl, k1⟩, v2, r2, rfl, ⟨y, rfl, k2⟩, v3, r3, rfl, ⟨rfl, k3⟩, rfl⟩ := hx
      exact ⟨x, y, rfl, k1, k2, k3⟩
    · rintro vs H' ⟨x, y, rfl, _⟩
      show 3 ≤ 100000
      decide
    · rintro v H3 e3 ⟨c, vs, rfl, k1, x, y, rfl, k2, k3, k4⟩
      exact q _ H3 (e.trans e3) ⟨c, rfl, x, y, l, k1, k2, k3, k4⟩
theorem p_inner (vs : List V) (H : Hp) (Q : VK) (E : XK) (h : spInner vs H Q E) : t_inner K { nx := fun _ H' => Q .non H', rt := Q } (start N_inner vs) H := by
  obtain ⟨a, W, b, xs, rfl, h, hW, hb, q⟩ := h
  show tSeq _ _ _ [some (.ref a), some (.ref b), none, none, none] H
  refine q_asgL (el_lst ea_nil (Nat.zero_le _)) fun l H2 hl e2 hL => ?_
  have hle := hW.le
  refine q_forR1 (n := (W.n : Int)) (ea1 (ev_wn (h.mono e2) (ev_var rfl))) ⟨by omega, by omega⟩ (fun i σ' H' => ∃ v, σ' = [some (.ref a), some (.ref b), some (.ref l), v, none] ∧ Gr nv H H' l ((List.range i).map fun r => (W.st r).filter fun t => decide (r ∈ xs) && decide (t ∈ xs))) (fun H3 e3 => ⟨_, rfl, (Gr.start hl e2 hL).mono e3⟩) ?_ ?_
  · rintro r σ' H' hr ⟨v, rfl, g⟩
    have hr : r < W.n := by omega
    have e := g.2.1
    have hx := h.mono e
    have := hW.st_len hr
    refine s_gr g (ev_var rfl) (el_filt (g := nv) (e := nv) (fun t => decide (r ∈ xs) && decide (t ∈ xs)) (evp_wst hx hW (ev_var rfl) (ev_var rfl) hr) (by omega) (fun _ => rfl) (fun t H3 ht e3 => et_and (et_test (ev_inN (ev_var rfl) (ev_var rfl) (hb.mono (e.trans e3)))) fun _ => et_test (ev_inN (ev_var rfl) (ev_var rfl) (hb.mono (e.trans e3)))) fun t H3 ht _ e3 => ev_var rfl) (by simp; omega) fun H4 g4 => ⟨_, rfl, ?_⟩
    rw [map_range_succ]
    exact g4
  · rintro σ' H' ⟨v, rfl, g⟩
    rw [show ((W.n : Int)).toNat = W.n by omega] at g
    exact s_ret (ev_var rfl) fun H3 e3 => q _ H3 (g.2.1.trans e3) ⟨l, rfl, g.ll.mono e3⟩
theorem p_beyond (vs : List V) (H : Hp) (Q : VK) (E : XK) (h : spBeyond vs H Q E) : t_beyond K { nx := fun _ H' => Q .non H', rt := Q } (start N_beyond vs) H := by
  obtain ⟨a, W, b, xs, rfl, h, hW, hb, q⟩ := h
  show tRet _ _ [some (.ref a), some (.ref b), none] H
  have hle := hW.le
  exact s_retL (el_filtR (g := nv) (fun t => decide (t ∉ xs)) (ea1 (ev_wn h (ev_var rfl))) (by omega) (fun _ => rfl) (fun t H3 ht e3 => et_test (ev_niN (ev_var rfl) (ev_var rfl) (hb.mono e3))) fun t H3 ht _ e3 => ev_var rfl) fun p H1 _ e1 hp => q _ H1 e1 ⟨p, rfl, hp⟩
theorem p_marked (vs : List V) (H : Hp) (Q : VK) (E : XK) (h : spMarked vs H Q E) : t_marked K spAskWorld spAskMarks { nx := fun _ H' => Q .non H', rt := Q } (start N_marked vs) H := by
  obtain ⟨a, W, m, rfl, h, hW, hm, q⟩ := h
  show tSeq _ _ _ [some (.ref a), some (sv m), none] H
  have hle := hW.le
  refine q_drop (evc (ea1 (ev_var rfl)) fun H2 e2 Q q _ => ⟨a, W, rfl, h.mono e2, hW, q⟩) fun H1 e1 => ?_
  refine q_dropP (Φ := fun v _ => v = .non) (evp_call (eap_cons (Φ := fun v H' => ∃ p, v = .ref p ∧ L1 sv H' p [m]) (fun v H1 H2 x ⟨y, k1, k2⟩ => ⟨y, k1, k2.mono x⟩) (evp_new (el_lst (ea1 (ev_var rfl)) (by show 1 ≤ 100000; decide))) eap_nil) ?_) fun v H2 e2 _ => ?_
  · rintro vs H2 e2 ⟨v, r, rfl, ⟨c, rfl, k⟩, rfl⟩ Q q E
    exact ⟨c, [m], rfl, k, ⟨List.pairwise_singleton _ _, fun x hx => by rw [List.mem_singleton.mp hx]; exact hm⟩, fun H3 e3 => q _ H3 e3 rfl⟩
  · have hx := h.mono (e1.trans e2)
    refine s_retL (el_filtR (g := nv) (fun r => decide (m ∈ W.mks r)) (ea1 (ev_wn hx (ev_var rfl))) (by omega) (fun _ => rfl) (fun r H3 hr e3 => ?_) fun t H3 ht _ e3 => ev_var rfl) fun p H3 _ e3 hp => q _ H3 ((e1.trans e2).trans e3) ⟨p, rfl, hp⟩
    obtain ⟨s, hs, hev⟩ := ev_wmk (K := K) (σ := [some (.ref a), some (sv m), some (nv r)]) (ta := tVar 0) (tb := tVar 2) (hx.mono e3) hW (ev_var rfl) (ev_var rfl) hr
    exact et_test (ev_inS (ev_var rfl) hev hs)
theorem p_can_now (vs : List V) (H : Hp) (Q : VK) (E : XK) (h : spCanNow vs H Q E) : t_can_now K { nx := fun _ H' => Q .non H', rt := Q } (start N_can_now vs) H := by
  obtain ⟨a, W, p, r, b, known, rfl, h, hW, hr, hb, q⟩ := h
  show tSeq _ _ _ [some (.ref a), some (nv p), some (nv r), some (.ref b), none, none] H
  have hlen := hW.st_len hr
  refine q_asgL (xs := ((W.st r).filter fun t => decide (t ∈ known)).map nv) (el_filt (g := nv) (e := nv) (fun t => decide (t ∈ known)) (evp_wst h hW (ev_var rfl) (ev_var rfl) hr) (by omega) (fun _ => rfl) (fun t H3 ht e3 => et_test (ev_inN (ev_var rfl) (ev_var rfl) (hb.mono e3))) fun t H3 ht _ e3 => ev_var rfl) fun i H1 _ e1 hi => ?_
  have hx := h.mono e1
  have hi : L1 nv H1 i ((W.st r).filter fun t => decide (t ∈ known)) := hi
  refine q_when (et_test (ev_eqN (ev_wow hx (ev_var rfl) (ev_var rfl) hr) (ev_var rfl))) (fun hc H2 e2 => ?_) fun hc H2 e2 => ?_
  · have hc := of_decide_eq_true hc
    refine s_ret (ev_gt (ev_lenL (ev_var rfl) (hi.mono e2)) ev_c) fun H3 e3 => ?_
    have : decide (0 < ((W.st r).filter fun t => decide (t ∈ known)).length) = canNow W p r fun t => decide (t ∈ known) := by
      rw [Bool.eq_iff_iff, decide_eq_true_eq, canNow_mine hc, List.length_pos_iff_exists_mem]
      simp [List.mem_filter]
    rw [this]
    exact q H3 ((e1.trans e2).trans e3)
  · have hc := of_decide_eq_false hc
    obtain ⟨s, hs, hev⟩ := ev_wst (K := K) (σ := [some (.ref a), some (nv p), some (nv r), some (.ref b), some (.ref i), none]) (ta := tVar 0) (tb := tVar 2) (hx.mono e2) hW (ev_var rfl) (ev_var rfl) hr
    refine s_ret (ev_eqN (ev_lenL (ev_var rfl) (hi.mono e2)) (ev_lenL hev hs)) fun H3 e3 => ?_
    have : decide (((W.st r).filter fun t => decide (t ∈ known)).length = (W.st r).length) = canNow W p r fun t => decide (t ∈ known) := by
      rw [Bool.eq_iff_iff, decide_eq_true_eq, canNow_oth hc, List.length_filter_eq_length_iff]
    rw [this]
    exact q H3 ((e1.trans e2).trans e3)
end
end FH
namespace FH
open PySem PySem.Spec PyProof.Rows L2 Evl
section
variable {K : PySem.W.Frag}
/-- a list at l that grows, plain values -/
def Gv {α : Type} (e : α → V) (H0 H : Hp) (l : Addr) (xs : List α) : Prop := H0 l = none ∧ Ex H0 H ∧ L1 e H l xs
theorem Gv.mono {α : Type} {e : α → V} {H0 H H' : Hp} {l : Addr} {xs : List α} (x : Ex H H') (g : Gv e H0 H l xs) : Gv e H0 H' l xs := ⟨g.1, g.2.1.trans x, g.2.2.mono x⟩
theorem s_gv {α : Type} {e : α → V} {σ : L2.St} {D : Ends} {H0 H : Hp} {l : Addr} {xs : List α} {x : α} {ta te : TE} (g : Gv e H0 H l xs) (ha : Ev ta σ H (.ref l)) (h : Ev te σ H (e x)) (hz : xs.length ≤ 1000) (k : ∀ H', Gv e H0 H' l (xs ++ [x]) → D.nx σ H') :
    tDrop (tBM K "list" rAppend ta (tCons te tNil)) D σ H := s_app g.2.2 ha h (by rw [List.length_map]; omega) fun H1 e1 => k _ ⟨g.1, Ex.mut (g.2.1.trans e1) g.1, by
  show upd _ _ _ _ = _
  rw [upd_same, List.map_append]
  rfl⟩
theorem getD_snoc_lt {α : Type} {xs : List α} {x d : α} {i : Nat} (h : i < xs.length) : (xs ++ [x]).getD i d = xs.getD i d := by
  rw [List.getD_eq_getElem?_getD, List.getD_eq_getElem?_getD, List.getElem?_append_left h]
theorem getD_snoc_eq {α : Type} {xs : List α} {x d : α} {i : Nat} (h : i = xs.length) : (xs ++ [x]).getD i d = x := by
  rw [List.getD_eq_getElem?_getD, List.getElem?_append_right (by omega), h, Nat.sub_self]
  rfl
theorem ev_nth0 {σ : L2.St} {H : Hp} {te : TE} {xs : List Nat} (h : EvL te σ H (xs.map nv)) {x : Nat} {r : List Nat} (e : xs = x :: r) : Ev (tOp (rIxL K) te (tC (.int 0))) σ H (nv x) := fun H1 e1 Q q =>
  h H1 e1 _ fun p H2 _ e2 hp => ⟨p, _, 0, nv x, rfl, rfl, sq_of hp, at_of (j := 0) rfl (by rw [e]; rfl), q H2 e2⟩
theorem p_turned_to (vs : List V) (H : Hp) (Q : VK) (E : XK) (h : spTurnedTo vs H Q E) : t_turned_to K { nx := fun _ H' => Q .non H', rt := Q } (start N_turned_to vs) H := by
  obtain ⟨a, ts, t, r, rfl, h, ht, hr, hs, q⟩ := h
  obtain ⟨us, h1, h2, h3⟩ := h
  show tSeq _ _ _ [some (.ref a), some (nv t), some (nv r)] H
  obtain ⟨y, hy⟩ := Option.isSome_iff_exists.mp hs
  have hr3 := h3 r hr
  rw [hy] at hr3
  obtain ⟨pr, hpr, hp⟩ := hr3
  have ht3 := h3 t ht
  cases hx : tg ts t with
  | none =>
    rw [hx] at ht3
    refine q_if (b := true) (et_is (et_test (ev_isN (ev_ix (ev_var rfl) (ev_var rfl) h1 ht3))) rfl) (fun _ H1 e1 => s_ret ev_c fun H2 e2 => ?_) fun z => by cases z
    have : turnedTo ts t r = false := by
      unfold turnedTo
      rw [hx]
    rw [this] at q
    exact q H2 (e1.trans e2)
  | some x =>
    rw [hx] at ht3
    obtain ⟨pt, hpt, hq⟩ := ht3
    have hv : turnedTo ts t r = if x.1 ≠ y.1 then decide (x.1 < y.1) else (decide (x.2 < y.2) || (decide (y.2 = 0) && decide (x.2 = 0))) := by
      unfold turnedTo
      rw [hx, hy]
    rw [hv] at q
    refine q_ifF (b := false) rfl (et_is (et_test (ev_isN (ev_ix (ev_var rfl) (ev_var rfl) h1 hpt))) rfl) fun H1 e1 => ?_
    have E1 : ∀ {H2 : Hp}, Ex H1 H2 → Ev (tOp (rIxL K) (tVar 0) (tVar 1)) [some (.ref a), some (nv t), some (nv r)] H2 (.ref pt) := fun e => (ev_ix (ev_var rfl) (ev_var rfl) h1 hpt).mono (e1.trans e)
    have E2 : ∀ {H2 : Hp}, Ex H1 H2 → Ev (tOp (rIxL K) (tVar 0) (tVar 2)) [some (.ref a), some (nv t), some (nv r)] H2 (.ref pr) := fun e => (ev_ix (ev_var rfl) (ev_var rfl) h1 hpr).mono (e1.trans e)
    refine q_when (et_test (ev_neN (ev_tix (E1 (Ex.refl _)) (e1 _ _ hq) (k := 0) rfl rfl) (ev_tix (E2 (Ex.refl _)) (e1 _ _ hp) (k := 0) rfl rfl))) (fun hc H2 e2 => ?_) fun hc H2 e2 => ?_
    · refine s_ret (ev_lt (ev_tix (E1 e2) ((e1.trans e2) _ _ hq) (k := 0) rfl rfl) (ev_tix (E2 e2) ((e1.trans e2) _ _ hp) (k := 0) rfl rfl)) fun H3 e3 => ?_
      rw [if_pos (of_decide_eq_true hc)] at q
      exact q H3 ((e1.trans e2).trans e3)
    · refine s_ret (ev_orV (ev_lt (ev_tix (E1 e2) ((e1.trans e2) _ _ hq) (k := 1) rfl rfl) (ev_tix (E2 e2) ((e1.trans e2) _ _ hp) (k := 1) rfl rfl)) fun _ => ev_andV (ev_eqN (ev_tix (E2 e2) ((e1.trans e2) _ _ hp) (k := 1) rfl rfl) ev_c) fun _ => ev_eqN (ev_tix (E1 e2) ((e1.trans e2) _ _ hq) (k := 1) rfl rfl) ev_c) fun H3 e3 => ?_
      rw [if_neg (of_decide_eq_false hc)] at q
      exact q H3 ((e1.trans e2).trans e3)
theorem ev_tgNone {σ : L2.St} {H : Hp} {ta tb : TE} {a : Addr} {ts : List (Option (Nat × Nat))} {r : Nat} (h : LT H a ts) (ha : Ev ta σ H (.ref a)) (hb : Ev tb σ H (nv r)) (hr : r < ts.length) : Ev (tOp rNotN (tOp (rIxL K) ta tb) (tC .non)) σ H (.bl (tg ts r).isSome) := by
  obtain ⟨us, h1, h2, h3⟩ := h
  have h4 := h3 r hr
  cases e : tg ts r with
  | none =>
    rw [e] at h4
    exact ev_is (ev_notN (ev_ix ha hb h1 h4)) rfl
  | some q =>
    rw [e] at h4
    obtain ⟨p, h5, _⟩ := h4
    exact ev_is (ev_notN (ev_ix ha hb h1 h5)) rfl
theorem ev_tgIs {σ : L2.St} {H : Hp} {ta tb : TE} {a : Addr} {ts : List (Option (Nat × Nat))} {r : Nat} (h : LT H a ts) (ha : Ev ta σ H (.ref a)) (hb : Ev tb σ H (nv r)) (hr : r < ts.length) : Ev (tOp rIsN (tOp (rIxL K) ta tb) (tC .non)) σ H (.bl (tg ts r).isNone) := by
  obtain ⟨us, h1, h2, h3⟩ := h
  have h4 := h3 r hr
  cases e : tg ts r with
  | none =>
    rw [e] at h4
    exact ev_is (ev_isN (ev_ix ha hb h1 h4)) rfl
  | some q =>
    rw [e] at h4
    obtain ⟨p, h5, _⟩ := h4
    exact ev_is (ev_isN (ev_ix ha hb h1 h5)) rfl
theorem p_counter_by (vs : List V) (H : Hp) (Q : VK) (E : XK) (h : spCounterBy vs H Q E) : t_counter_by K spTurnedTo { nx := fun _ H' => Q .non H', rt := Q } (start N_counter_by vs) H := by
  obtain ⟨a, W, p, b, ts, rfl, h, hW, hb, hlen, hstep, q⟩ := h
  show tSeq _ _ _ [some (.ref a), some (nv p), some (.ref b), none, none, none, none] H
  refine q_asgL (el_lst ea_nil (Nat.zero_le _)) fun l H2 hl e2 hL => ?_
  have hle := hW.le
  refine q_forR1 (n := (W.n : Int)) (ea1 (ev_wn (h.mono e2) (ev_var rfl))) ⟨by omega, by omega⟩ (fun i σ' H' => ∃ v4 v5, σ' = [some (.ref a), some (nv p), some (.ref b), some (.ref l), v4, v5, none] ∧ ∃ xs : List (Option Nat), Gv ov H H' l xs ∧ xs.length = i) (fun H3 e3 => ⟨_, _, rfl, [], ⟨hl, e2.trans e3, e3 _ _ hL⟩, rfl⟩) ?_ ?_
  · rintro r σ' H' hr ⟨v4, v5, rfl, xs, g, hxs⟩
    have hr : r < W.n := by omega
    refine q_asg ev_c fun H3 e3 => ?_
    have g3 := g.mono e3
    have e := g3.2.1
    have hx := h.mono e
    refine q_when (et_and (et_test (ev_eqN (ev_wow hx (ev_var rfl) (ev_var rfl) hr) (ev_var rfl))) fun _ => et_test (ev_tgNone (hb.mono e) (ev_var rfl) (ev_var rfl) (by omega))) (fun hc H4 e4 => ?_) fun hc H4 e4 => ?_
    · rw [Bool.and_eq_true, decide_eq_true_eq] at hc
      obtain ⟨y, hy⟩ := Option.isSome_iff_exists.mp hc.2
      obtain ⟨s, hs, hst⟩ := hstep r y hy hc.1
      have hmem : s ∈ (W.st r).filter fun s => turnedTo ts s r := List.mem_filter.mpr ⟨hs, hst⟩
      obtain ⟨x, rest, hxr⟩ : ∃ x rest, ((W.st r).filter fun s => turnedTo ts s r) = x :: rest := by
        cases hf : (W.st r).filter fun s => turnedTo ts s r with
        | nil => rw [hf] at hmem; cases hmem
        | cons x rest => exact ⟨x, rest, rfl⟩
      have := hW.st_len hr
      refine s_asg (ev_nth0 (el_filt (g := nv) (e := nv) (fun s => turnedTo ts s r) (evp_wst (hx.mono e4) hW (ev_var rfl) (ev_var rfl) hr) (by omega) (fun _ => rfl) (fun s H5 hs e5 => et_B (evc (ea3 (ev_var rfl) (ev_var rfl) (ev_var rfl)) fun H6 e6 Q q _ => ⟨b, ts, s, r, rfl, hb.mono (((e.trans e4).trans e5).trans e6), by rw [hlen]; exact (hW.st r hr).2 s hs, by omega, by rw [hy]; rfl, q⟩)) fun s H5 hs _ e5 => ev_var rfl) hxr) fun H5 e5 => ?_
      exact s_gv (x := some x) ((g3.mono e4).mono e5) (ev_var rfl) (ev_var rfl) (by omega) fun H6 g6 => ⟨_, _, rfl, _, g6, by rw [List.length_append, hxs]; rfl⟩
    · exact s_gv (x := none) (g3.mono e4) (ev_var rfl) (ev_var rfl) (by omega) fun H6 g6 => ⟨_, _, rfl, _, g6, by rw [List.length_append, hxs]; rfl⟩
  · rintro σ' H' ⟨v4, v5, rfl, xs, g, hxs⟩
    exact s_ret (ev_var rfl) fun H3 e3 => q _ H3 (g.2.1.trans e3) trivial
theorem ov_rg {rk : List (Option Nat)} {r k : Nat} (h : rg rk r = some k) : ov (rg rk r) = nv k := by
  rw [h]
  rfl
theorem p_downwards (vs : List V) (H : Hp) (Q : VK) (E : XK) (h : spDownwards vs H Q E) : t_downwards K { nx := fun _ H' => Q .non H', rt := Q } (start N_downwards vs) H := by
  obtain ⟨a, W, p, b, rk, rfl, h, hW, hb, hlen, hstep, q⟩ := h
  show tSeq _ _ _ [some (.ref a), some (nv p), some (.ref b), none, none, none, none, none] H
  refine q_asgL (el_lst ea_nil (Nat.zero_le _)) fun l H2 hl e2 hL => ?_
  have hle := hW.le
  refine q_forR1 (n := (W.n : Int)) (ea1 (ev_wn (h.mono e2) (ev_var rfl))) ⟨by omega, by omega⟩ (fun i σ' H' => ∃ v4 v5 v6, σ' = [some (.ref a), some (nv p), some (.ref b), some (.ref l), v4, v5, v6, none] ∧ ∃ xs : List (Option Nat), Gv ov H H' l xs ∧ xs.length = i) (fun H3 e3 => ⟨_, _, _, rfl, [], ⟨hl, e2.trans e3, e3 _ _ hL⟩, rfl⟩) ?_ ?_
  · rintro r σ' H' hr ⟨v4, v5, v6, rfl, xs, g, hxs⟩
    have hr : r < W.n := by omega
    refine q_asg ev_c fun H3 e3 => ?_
    have g3 := g.mono e3
    have e := g3.2.1
    have hx := h.mono e
    have hrk : r < rk.length := by omega
    have T1 : EvT (tTest (tOp rEq (tOp (rIxL K) (tOp (rIxT K) (tVar 0) (tC (.int 0))) (tVar 4)) (tVar 1))) [some (.ref a), some (nv p), some (.ref b), some (.ref l), some (nv r), some .non, v6, none] H3 (decide (W.ow r = p)) := et_test (ev_eqN (ev_wow hx (ev_var rfl) (ev_var rfl) hr) (ev_var rfl))
    have T2 : EvT (tTest (tOp rNotN (tOp (rIxL K) (tVar 2) (tVar 4)) (tC .non))) [some (.ref a), some (nv p), some (.ref b), some (.ref l), some (nv r), some .non, v6, none] H3 (rg rk r).isSome := et_test (ev_notNO (ev_rg (hb.mono e) (ev_var rfl) (ev_var rfl) hrk))
    have T3 : (rg rk r).isSome = true → EvT (tTest (tOp rGt (tOp (rIxL K) (tVar 2) (tVar 4)) (tC (.int 0)))) [some (.ref a), some (nv p), some (.ref b), some (.ref l), some (nv r), some .non, v6, none] H3 (decide (0 < (rg rk r).getD 0)) := fun hs => by
      obtain ⟨k, hk⟩ := Option.isSome_iff_exists.mp hs
      rw [hk]
      exact et_test (ev_gt (ev_is (ev_rg (hb.mono e) (ev_var rfl) (ev_var rfl) hrk) (ov_rg hk)) ev_c)
    refine q_when (et_and T1 fun _ => et_and T2 T3) (fun hc H4 e4 => ?_) fun hc H4 e4 => ?_
    · rw [Bool.and_eq_true, Bool.and_eq_true, decide_eq_true_eq, decide_eq_true_eq] at hc
      obtain ⟨hc1, hc2, hc3⟩ := hc
      obtain ⟨k, hk⟩ := Option.isSome_iff_exists.mp hc2
      rw [hk] at hc3
      have hc3 : 0 < k := hc3
      obtain ⟨j, rfl⟩ : ∃ j, k = j + 1 := ⟨k - 1, by omega⟩
      obtain ⟨s, hs, i, hi, hij⟩ := hstep r j hk hc1
      have hmem : s ∈ (W.st r).filter fun s => (rg rk s).isSome && decide ((rg rk s).getD 0 < j + 1) := List.mem_filter.mpr ⟨hs, by rw [hi]; simp; omega⟩
      obtain ⟨x, rest, hxr⟩ : ∃ x rest, ((W.st r).filter fun s => (rg rk s).isSome && decide ((rg rk s).getD 0 < j + 1)) = x :: rest := by
        cases hf : (W.st r).filter fun s => (rg rk s).isSome && decide ((rg rk s).getD 0 < j + 1) with
        | nil => rw [hf] at hmem; cases hmem
        | cons x rest => exact ⟨x, rest, rfl⟩
      have := hW.st_len hr
      have hb4 := hb.mono (e.trans e4)
      refine q_asgL (el_filt (g := nv) (e := nv) (fun s => (rg rk s).isSome && decide ((rg rk s).getD 0 < j + 1)) (evp_wst (hx.mono e4) hW (ev_var rfl) (ev_var rfl) hr) (by omega) (fun _ => rfl) (fun s H5 hs e5 => et_and (et_test (ev_notNO (ev_rg (hb4.mono e5) (ev_var rfl) (ev_var rfl) (by rw [hlen]; exact (hW.st r hr).2 s hs)))) fun hss => ?_) fun s H5 hs _ e5 => ev_var rfl) fun f H5 _ e5 hf => ?_
      · obtain ⟨i, hi⟩ := Option.isSome_iff_exists.mp hss
        rw [hi]
        exact et_test (ev_lt (ev_is (ev_rg (hb4.mono e5) (ev_var rfl) (ev_var rfl) (by rw [hlen]; exact (hW.st r hr).2 s hs)) (ov_rg hi)) (ev_is (ev_rg (hb4.mono e5) (ev_var rfl) (ev_var rfl) hrk) (ov_rg hk)))
      · rw [hxr] at hf
        refine s_asg (ev_ix (k := 0) (v := nv x) (ev_var rfl) ev_c hf rfl) fun H6 e6 => ?_
        exact s_gv (x := some x) (((g3.mono e4).mono e5).mono e6) (ev_var rfl) (ev_var rfl) (by omega) fun H7 g7 => ⟨_, _, _, rfl, _, g7, by rw [List.length_append, hxs]; rfl⟩
    · exact s_gv (x := none) (g3.mono e4) (ev_var rfl) (ev_var rfl) (by omega) fun H6 g6 => ⟨_, _, _, rfl, _, g6, by rw [List.length_append, hxs]; rfl⟩
  · rintro σ' H' ⟨v4, v5, v6, rfl, xs, g, hxs⟩
    exact s_ret (ev_var rfl) fun H3 e3 => q _ H3 (g.2.1.trans e3) trivial
theorem p_plan_by (vs : List V) (H : Hp) (Q : VK) (E : XK) (h : spPlanBy vs H Q E) : t_plan_by K { nx := fun _ H' => Q .non H', rt := Q } (start N_plan_by vs) H := by
  obtain ⟨a, W, p, b, rk, rfl, h, hW, hb, hlen, hstep, q⟩ := h
  show tSeq _ _ _ [some (.ref a), some (nv p), some (.ref b), none, none, none, none, none, none] H
  refine q_asgL (el_lst ea_nil (Nat.zero_le _)) fun l H2 hl e2 hL => ?_
  have hle := hW.le
  refine q_forR1 (n := (W.n : Int)) (ea1 (ev_wn (h.mono e2) (ev_var rfl))) ⟨by omega, by omega⟩ (fun i σ' H' => ∃ v4 v5 v6 v7, σ' = [some (.ref a), some (nv p), some (.ref b), some (.ref l), v4, v5, v6, v7, none] ∧ ∃ xs : List (Option Nat), Gv ov H H' l xs ∧ xs.length = i ∧
      ∀ r, r < i → (∀ k, rg rk r = some k → W.ow r = p → ∃ t, rg xs r = some t ∧ t ∈ W.st r ∧ StepTo rk r t) ∧ (W.ow r ≠ p ∨ rg rk r = none → rg xs r = none)) (fun H3 e3 => ⟨_, _, _, _, rfl, [], ⟨hl, e2.trans e3, e3 _ _ hL⟩, rfl, fun r hr => absurd hr (Nat.not_lt_zero _)⟩) ?_ ?_
  · rintro r σ' H' hr ⟨v4, v5, v6, v7, rfl, xs, g, hxs, hall⟩
    have hr : r < W.n := by omega
    refine q_asg ev_c fun H3 e3 => ?_
    have g3 := g.mono e3
    have e := g3.2.1
    have hx := h.mono e
    have hrk : r < rk.length := by omega
    refine q_when (et_and (et_test (ev_eqN (ev_wow hx (ev_var rfl) (ev_var rfl) hr) (ev_var rfl))) fun _ => et_test (ev_notNO (ev_rg (hb.mono e) (ev_var rfl) (ev_var rfl) hrk))) (fun hc H4 e4 => ?_) fun hc H4 e4 => ?_
    · rw [Bool.and_eq_true, decide_eq_true_eq] at hc
      obtain ⟨hc1, hc2⟩ := hc
      obtain ⟨k, hk⟩ := Option.isSome_iff_exists.mp hc2
      have hlst : ∀ s, s ∈ W.st r → s < rk.length := fun s hs => by rw [hlen]; exact (hW.st r hr).2 s hs
      have := hW.st_len hr
      have hb4 := hb.mono (e.trans e4)
      refine q_asgL (xs := ((W.st r).filter fun s => (rg rk s).isSome).map nv) (el_filt (g := nv) (e := nv) (fun s => (rg rk s).isSome) (evp_wst (hx.mono e4) hW (ev_var rfl) (ev_var rfl) hr) (by omega) (fun _ => rfl) (fun s H5 hs e5 => et_test (ev_notNO (ev_rg (hb4.mono e5) (ev_var rfl) (ev_var rfl) (hlst s hs)))) fun s H5 hs _ e5 => ev_var rfl) fun f H5 _ e5 hf => ?_
      have hf : L1 nv H5 f ((W.st r).filter fun s => (rg rk s).isSome) := hf
      have hb5 := hb4.mono e5
      have hfl : ((W.st r).filter fun s => (rg rk s).isSome).length ≤ 24 := Nat.le_trans (List.length_filter_le _ _) this
      refine q_asgL (xs := (((W.st r).filter fun s => (rg rk s).isSome).filter fun s => decide (k = 0) || decide ((rg rk s).getD 0 < k)).map nv) (el_filt (g := nv) (e := nv) (fun s => decide (k = 0) || decide ((rg rk s).getD 0 < k)) (evp_ref (ev_var rfl) hf) (by omega) (fun _ => rfl) (fun s H6 hs e6 => et_or (et_test (ev_eqN (ev_is (ev_rg (hb5.mono e6) (ev_var rfl) (ev_var rfl) hrk) (ov_rg hk)) ev_c)) fun _ => ?_) fun s H6 hs _ e6 => ev_var rfl) fun f2 H6 _ e6 hf2 => ?_
      · obtain ⟨hs1, hs2⟩ := List.mem_filter.mp hs
        obtain ⟨i, hi⟩ := Option.isSome_iff_exists.mp hs2
        rw [hi]
        exact et_test (ev_lt (ev_is (ev_rg (hb5.mono e6) (ev_var rfl) (ev_var rfl) (hlst s hs1)) (ov_rg hi)) (ev_is (ev_rg (hb5.mono e6) (ev_var rfl) (ev_var rfl) hrk) (ov_rg hk)))
      · -- the step that is chosen
        have key : ∀ s, s ∈ (((W.st r).filter fun s => (rg rk s).isSome).filter fun s => decide (k = 0) || decide ((rg rk s).getD 0 < k)) ↔ s ∈ W.st r ∧ StepTo rk r s := fun s => by
          rw [List.mem_filter, List.mem_filter, Bool.or_eq_true, decide_eq_true_eq, decide_eq_true_eq]
          constructor
          · rintro ⟨⟨h1, h2⟩, h3⟩
            obtain ⟨i, hi⟩ := Option.isSome_iff_exists.mp h2
            rw [hi] at h3
            exact ⟨h1, k, i, hk, hi, h3⟩
          · rintro ⟨h1, k', i, hk', hi, h3⟩
            rw [hk] at hk'
            cases hk'
            rw [hi]
            exact ⟨⟨h1, rfl⟩, h3⟩
        obtain ⟨s, hs, hst⟩ := hstep r k hk hc1
        have hmem := (key s).mpr ⟨hs, hst⟩
        generalize (((W.st r).filter fun s => (rg rk s).isSome).filter fun s => decide (k = 0) || decide ((rg rk s).getD 0 < k)) = L at key hmem hf2
        obtain ⟨x, rest, rfl⟩ : ∃ x rest, L = x :: rest := by
          cases L with
          | nil => cases hmem
          | cons x rest => exact ⟨x, rest, rfl⟩
        have hxk := (key x).mp List.mem_cons_self
        refine s_asg (ev_ix (k := 0) (v := nv x) (ev_var rfl) ev_c hf2 rfl) fun H7 e7 => ?_
        refine s_gv (x := some x) ((((g3.mono e4).mono e5).mono e6).mono e7) (ev_var rfl) (ev_var rfl) (by omega) fun H8 g8 => ⟨_, _, _, _, rfl, _, g8, by rw [List.length_append, hxs]; rfl, fun r' hr' => ?_⟩
        by_cases hlt : r' < r
        · show (∀ k, rg rk r' = some k → W.ow r' = p → ∃ t, (xs ++ [some x]).getD r' none = some t ∧ _) ∧ (_ → (xs ++ [some x]).getD r' none = none)
          rw [getD_snoc_lt (by omega)]
          exact hall r' hlt
        · have : r' = r := by omega
          subst this
          show (∀ k, rg rk r' = some k → W.ow r' = p → ∃ t, (xs ++ [some x]).getD r' none = some t ∧ _) ∧ (_ → (xs ++ [some x]).getD r' none = none)
          rw [getD_snoc_eq (by omega)]
          refine ⟨fun k' hk' _ => ⟨x, rfl, hxk.1, hxk.2⟩, fun z => ?_⟩
          rcases z with z | z
          · exact absurd hc1 z
          · rw [hk] at z
            cases z
    · refine s_gv (x := none) (g3.mono e4) (ev_var rfl) (ev_var rfl) (by omega) fun H6 g6 => ⟨_, _, _, _, rfl, _, g6, by rw [List.length_append, hxs]; rfl, fun r' hr' => ?_⟩
      show (∀ k, rg rk r' = some k → W.ow r' = p → ∃ t, (xs ++ [none]).getD r' none = some t ∧ _) ∧ (_ → (xs ++ [none]).getD r' none = none)
      by_cases hlt : r' < r
      · rw [getD_snoc_lt (by omega)]
        exact hall r' hlt
      · have : r' = r := by omega
        subst this
        rw [getD_snoc_eq (by omega)]
        refine ⟨fun k hk ho => ?_, fun _ => rfl⟩
        rw [decide_eq_true ho, hk] at hc
        cases hc
  · rintro σ' H' ⟨v4, v5, v6, v7, rfl, xs, g, hxs, hall⟩
    have hn : ((W.n : Int)).toNat = W.n := by omega
    rw [hn] at hxs hall
    exact s_ret (ev_var rfl) fun H3 e3 => q _ H3 (g.2.1.trans e3) ⟨l, xs, rfl, g.2.2.mono e3, hxs, fun r k hr hk ho => (hall r hr).1 k hk ho, fun r hr z => (hall r hr).2 z⟩
end
end FH
namespace FH
open PySem PySem.Spec PyProof.Rows L2 Evl
section
variable {K : PySem.W.Frag}
theorem br0_map (n : Nat) (rooms within : List Nat) : (br0 n rooms within).map ov = (List.range n).map fun r => ov (if r ∈ rooms ∧ r ∈ within then some 0 else none) := by
  unfold br0
  rw [List.map_map]
  rfl
theorem p_brought (vs : List V) (H : Hp) (Q : VK) (E : XK) (h : spBrought vs H Q E) : t_brought K spCanNow { nx := fun _ H' => Q .non H', rt := Q } (start N_brought vs) H := by
  obtain ⟨a, W, p, b, rooms, c, within, d, had, rfl, h, hW, hb, hc, hw, hd, hhad, q⟩ := h
  show tSeq _ _ _ [some (.ref a), some (nv p), some (.ref b), some (.ref c), some (.ref d), none, none, none, none, none, none] H
  have hle := hW.le
  have hwl := hw.len hW
  refine q_asgL (xs := (br0 W.n rooms within).map ov) (by
    rw [br0_map]
    refine el_mapR (ea1 (ev_wn h (ev_var rfl))) (by omega) (fun _ => rfl) fun r H1 hr e1 => ?_
    refine ev_if (et_and (et_test (ev_inN (ev_var rfl) (ev_var rfl) (hb.mono e1))) fun _ => et_test (ev_inN (ev_var rfl) (ev_var rfl) (hc.mono e1))) (fun z => ?_) fun z => ?_
    · rw [Bool.and_eq_true, decide_eq_true_eq, decide_eq_true_eq] at z
      rw [if_pos z]
      exact ev_c
    · rw [if_neg fun y => by rw [decide_eq_true y.1, decide_eq_true y.2] at z; cases z]
      exact ev_c) fun l H1 hl e1 hL => ?_
  refine q_asg ev_c fun H2 e2 => ?_
  refine q_asg ev_c fun H3 e3 => ?_
  have hL : L1 ov H1 l (br0 W.n rooms within) := hL
  refine q_while (fun m σ' H' => ∃ (rk : List (Option Nat)) (rank : Nat) (more : Bool) (v8 v9 v10 : Option V), σ' = [some (.ref a), some (nv p), some (.ref b), some (.ref c), some (.ref d), some (.ref l), some (nv rank), some (.bl more), v8, v9, v10] ∧ Ex H H' ∧ L1 ov H' l rk ∧
    BrInv W p rooms within had rank rk ∧ (more = false → Brought W p rooms within had rk) ∧ m = brLeft W.n rk + (if more then 1 else 0)) _ ⟨_, 0, true, none, none, none, rfl, (e1.trans e2).trans e3, (hL.mono e2).mono e3, .start, fun z => (by cases z), rfl⟩ ?_
  rintro m σ' H' ⟨rk, rank, more, v8, v9, v10, rfl, e, hl', B, hB, hm⟩
  refine ⟨more, et_B (ev_var rfl), fun hmore H4 e4 => ⟨fun σ2 H2 => ∃ m', m' < m ∧ ∃ (rk : List (Option Nat)) (rank : Nat) (more : Bool) (v8 v9 v10 : Option V), σ2 = [some (.ref a), some (nv p), some (.ref b), some (.ref c), some (.ref d), some (.ref l), some (nv rank), some (.bl more), v8, v9, v10] ∧ Ex H H2 ∧ L1 ov H2 l rk ∧
    BrInv W p rooms within had rank rk ∧ (more = false → Brought W p rooms within had rk) ∧ m' = brLeft W.n rk + (if more then 1 else 0), fun σ2 H2 hN => hN, ?_⟩, fun hmore H4 e4 => ?_⟩
  · subst hmore
    have eh := e.trans e4
    have hl4 := hl'.mono e4
    have hx := h.mono eh
    have hrk : rk.length ≤ 24 := by rw [B.len]; exact hle
    -- known
    refine q_asgL (xs := (brKnown had rk).map nv) (el_catPP (evp_ref (ev_var rfl) (hd.mono eh)) (evp_new (el_filtR (g := nv) (fun r => (rg rk r).isSome) (ea1 (ev_lenL (ev_var rfl) hl4)) (by omega) (fun _ => rfl) (fun r H5 hr e5 => et_test (ev_notNO (ev_rg (hl4.mono e5) (ev_var rfl) (ev_var rfl) hr))) fun r H5 hr _ e5 => ev_var rfl)) ?_) fun kn H5 hkn e5 hk => ?_
    · have := List.length_filter_le (fun r => (rg rk r).isSome) (List.range rk.length)
      rw [List.length_range] at this
      omega
    have hk : L1 nv H5 kn (brKnown had rk) := hk
    have e45 := eh.trans e5
    have hl5 := hl4.mono e5
    -- new
    refine q_asgL (xs := (brNew W p within (brKnown had rk) rk).map nv) (el_filt (g := nv) (e := nv) (fun r => (rg rk r).isNone && canNow W p r (fun t => decide (t ∈ brKnown had rk))) (evp_ref (ev_var rfl) (hc.mono e45)) (by omega) (fun _ => rfl) (fun r H6 hr e6 => et_and (et_test (ev_isNO (ev_rg (hl5.mono e6) (ev_var rfl) (ev_var rfl) (by rw [B.len]; exact hw.2 r hr)))) fun _ =>
      et_B (evc (ea_cons (ev_var rfl) (ea3 (ev_var rfl) (ev_var rfl) (ev_var rfl))) fun H7 e7 Q q _ => ⟨a, W, p, r, kn, brKnown had rk, rfl, h.mono ((e45.trans e6).trans e7), hW, hw.2 r hr, (hk.mono e6).mono e7, q⟩)) fun r H6 hr _ e6 => ev_var rfl) fun nw H6 hnw e6 hn => ?_
    have hn : L1 nv H6 nw (brNew W p within (brKnown had rk) rk) := hn
    have e46 := e45.trans e6
    have hl6 := hl5.mono e6
    have nwl : nw ≠ l := (ne_of_none hl5 hnw).symm
    have hnewn : ∀ r ∈ brNew W p within (brKnown had rk) rk, r < W.n := fun r hr => hw.2 r (mem_brNew.mp hr).1
    have hBn := B.next hw.2
    have hlt := brLeft_lt (v := rank + 1) (known := brKnown had rk) hw.2 B
    have hstop := B.stop
    generalize brNew W p within (brKnown had rk) rk = new at hn hnewn hBn hlt hstop ⊢
    refine q_asg (v := nv (rank + 1)) (ev_plus (ev_var rfl) ev_c) fun H7 e7 => ?_
    refine q_forLn (ev_var rfl) (sq_of (hn.mono e7)) (fun i σ' H' => ∃ v, σ' = [some (.ref a), some (nv p), some (.ref b), some (.ref c), some (.ref d), some (.ref l), some (nv (rank + 1)), some (.bl true), some (.ref kn), some (.ref nw), v] ∧ Ex H H' ∧ L1 nv H' nw new ∧ L1 ov H' l (setAll rk (new.take i) (rank + 1)))
      (fun H8 e8 => ⟨_, rfl, (e46.trans e7).trans e8, (hn.mono e7).mono e8, (hl6.mono e7).mono e8⟩) (fun i σ' H' _ ⟨v, _, _, hq, _⟩ => sq_of hq) ?_ ?_
    · rintro i x σ' H8 hi ⟨v, rfl, e8, hn8, hl8⟩
      rw [List.getElem?_map] at hi
      obtain ⟨r, hri, rfl⟩ := Option.map_eq_some_iff.mp hi
      have hr : r < rk.length := by rw [B.len]; exact hnewn r (List.mem_of_getElem? hri)
      refine s_setL (j := r) hl8 (v := nv (rank + 1)) (ev_var rfl) (ev_var rfl) (ev_var rfl) (by rw [List.length_map, setAll_len]; exact hr) fun H9 e9 => ⟨_, rfl, Ex.mut (e8.trans e9) hl, ?_, ?_⟩
      · show upd _ _ _ _ = _
        rw [upd_ne nwl]
        exact hn8.mono e9
      · show upd _ _ _ _ = _
        rw [upd_same, take_succ' hri, setAll_snoc, List.map_set]
        rfl
    · rintro σ' H8 ⟨v, rfl, e8, hn8, hl8⟩
      rw [List.length_map, List.take_of_length_le (Nat.le_refl _)] at hl8
      refine s_asg (ev_gt (ev_lenL (ev_var rfl) hn8) ev_c) fun H9 e9 => ?_
      by_cases hnil : new = []
      · subst hnil
        exact ⟨brLeft W.n rk, by rw [hm]; exact Nat.lt_succ_self _, rk, rank + 1, false, _, _, _, rfl, e8.trans e9, hl8.mono e9, hBn, fun _ => hstop rfl, rfl⟩
      · have h1 := hlt hnil
        have hpos : decide (0 < new.length) = true := decide_eq_true (List.length_pos_iff.mpr hnil)
        rw [hpos]
        exact ⟨brLeft W.n (setAll rk new (rank + 1)) + 1, by rw [hm]; exact Nat.succ_lt_succ h1, _, rank + 1, true, _, _, _, rfl, e8.trans e9, hl8.mono e9, hBn, fun z => (by cases z), rfl⟩
  · exact s_ret (ev_var rfl) fun H5 e5 => q _ H5 ((e.trans e4).trans e5) ⟨l, rk, rfl, hl, (hl'.mono e4).mono e5, hB hmore⟩
theorem range_rooms (W : Wd) : Rooms W (List.range W.n) := ⟨List.pairwise_lt_range, fun x hx => List.mem_range.mp hx⟩
theorem mono_L1 {α : Type} {e : α → V} {xs : List α} : Mono (fun (v : V) H' => ∃ p, v = .ref p ∧ L1 e H' p xs) := fun v H1 H2 x ⟨p, h1, h2⟩ => ⟨p, h1, h2.mono x⟩
theorem p_bring (vs : List V) (H : Hp) (Q : VK) (E : XK) (h : spBring vs H Q E) : t_bring K spAskGame spBrought spDownwards { nx := fun _ H' => Q .non H', rt := Q } (start N_bring vs) H := by
  obtain ⟨a, W, p, b, rooms, rfl, h, hW, hp, hb, hr, q⟩ := h
  show tSeq _ _ _ [some (.ref a), some (nv p), some (.ref b), none] H
  have hle := hW.le
  refine q_drop (evc (ea3 (ev_var rfl) (ev_var rfl) (ev_var rfl)) fun H2 e2 Q q _ => ⟨a, W, p, b, rooms, rfl, h.mono e2, hW, hp, hb.mono e2, hr, q⟩) fun H1 e1 => ?_
  refine q_asgP (Φ := fun v H' => ∃ k rk, v = .ref k ∧ L1 ov H' k rk ∧ Brought W p rooms (List.range W.n) [] rk) (evp_call (eap_cons mono_eq (EvP.of (ev_var rfl)) (eap_cons mono_eq (EvP.of (ev_var rfl)) (eap_cons mono_eq (EvP.of (ev_var rfl)) (eap_cons mono_L1 (evp_new (el_listRg (ev_wn (h.mono e1) (ev_var rfl)) (by omega))) (eap_cons mono_L1 (evp_new (xs := ([] : List Nat)) (e := nv) (el_lst ea_nil (Nat.zero_le _))) eap_nil))))) ?_) ?_
  · rintro vs H2 e2 ⟨_, _, rfl, rfl, _, _, rfl, rfl, _, _, rfl, rfl, _, _, rfl, ⟨c, rfl, hc⟩, _, _, rfl, ⟨d, rfl, hd⟩, rfl⟩ Q q E
    exact ⟨a, W, p, b, rooms, c, List.range W.n, d, [], rfl, h.mono (e1.trans e2), hW, hb.mono (e1.trans e2), hc, range_rooms W, hd, Nat.zero_le _, fun v H3 e3 ⟨k, rk, h1, _, h2, h3⟩ => q v H3 e3 ⟨k, rk, h1, h2, h3⟩⟩
  · rintro v H2 e2 ⟨k, rk, rfl, hk, B⟩
    have e := e1.trans e2
    have hdn : ∀ r j, rg rk r = some (j + 1) → W.ow r = p → ∃ t ∈ W.st r, ∃ i, rg rk t = some i ∧ i ≤ j := fun r j hj ho => by
      obtain ⟨t, ht, hf⟩ := (canNow_mine ho).mp (B.pos r j hj)
      rw [Bool.or_eq_true, decide_eq_true_eq, below_iff] at hf
      rcases hf with hf | ⟨i, hi, hij⟩
      · cases hf
      · exact ⟨t, ht, i, hi, hij⟩
    refine s_retP (evp_tup (Ξ := fun vs H' => ∃ x, vs = [.ref k, x]) (fun vs H1 H2 x h => h) (fun H3 e3 Q k => eap_cons mono_eq (EvP.of (ev_var rfl)) (eap_cons (Φ := fun _ _ => True) (fun _ _ _ _ h => h) (evpc (ea3 (ev_var rfl) (ev_var rfl) (ev_var rfl)) fun H4 e4 Q q _ => ⟨a, W, p, _, rk, rfl, h.mono (e.trans e4), hW, hk.mono e4, B.len, hdn, q⟩) eap_nil) H3 e3 Q fun vs H4 e4 hx => k vs H4 e4 ?_) ?_) ?_
    · obtain ⟨_, _, rfl, rfl, x, _, rfl, _, rfl⟩ := hx
      exact ⟨x, rfl⟩
    · rintro vs H' ⟨x, rfl⟩
      show 2 ≤ 100000
      decide
    · rintro v H3 e3 ⟨c, vs, rfl, hc, x, rfl⟩
      exact q _ H3 (e.trans e3) ⟨c, k, x, rk, rfl, hc, hk.mono e3, B⟩
theorem p_shut_out (vs : List V) (H : Hp) (Q : VK) (E : XK) (h : spShutOut vs H Q E) : t_shut_out K spBrought { nx := fun _ H' => Q .non H', rt := Q } (start N_shut_out vs) H := by
  obtain ⟨a, W, p, b, rooms, c, left, rfl, h, hW, hp, hb, hc, hl, q⟩ := h
  show tSeq _ _ _ [some (.ref a), some (nv p), some (.ref b), some (.ref c), none, none, none, none] H
  have hle := hW.le
  have hll := hl.len hW
  refine q_asgP (Φ := fun v H' => ∃ k rk, v = .ref k ∧ H k = none ∧ L1 ov H' k rk ∧ Brought W p rooms left [] rk) (evp_call (eap_cons mono_eq (EvP.of (ev_var rfl)) (eap_cons mono_eq (EvP.of (ev_var rfl)) (eap_cons mono_eq (EvP.of (ev_var rfl)) (eap_cons mono_eq (EvP.of (ev_var rfl)) (eap_cons mono_L1 (evp_new (xs := ([] : List Nat)) (e := nv) (el_lst ea_nil (Nat.zero_le _))) eap_nil))))) ?_) ?_
  · rintro vs H2 e2 ⟨_, _, rfl, rfl, _, _, rfl, rfl, _, _, rfl, rfl, _, _, rfl, rfl, _, _, rfl, ⟨d, rfl, hd⟩, rfl⟩ Q q E
    exact ⟨a, W, p, b, rooms, c, left, d, [], rfl, h.mono e2, hW, hb.mono e2, hc.mono e2, hl, hd, Nat.zero_le _, fun v H3 e3 ⟨k, rk, h1, h0, h2, h3⟩ => q v H3 e3 ⟨k, rk, h1, fresh_back e2 h0, h2, h3⟩⟩
  rintro v H1 e1 ⟨k, rk, rfl, hk0, hk, B⟩
  have hlt : ∀ r ∈ left, r < rk.length := fun r hr => by rw [B.len]; exact hl.2 r hr
  refine q_asgL (xs := (freeOf left rk).map nv) (el_filt (g := nv) (e := nv) (fun r => (rg rk r).isNone) (evp_ref (ev_var rfl) (hc.mono e1)) (by omega) (fun _ => rfl) (fun r H2 hr e2 => et_test (ev_isNO (ev_rg (hk.mono e2) (ev_var rfl) (ev_var rfl) (hlt r hr)))) fun r H2 hr _ e2 => ev_var rfl) fun f H2 _ e2 hf => ?_
  have hf : L1 nv H2 f (freeOf left rk) := hf
  have e12 := e1.trans e2
  refine q_asgL (xs := (beyondOf W left).map nv) (el_filtR (g := nv) (fun r => decide (r ∉ left)) (ea1 (ev_wn (h.mono e12) (ev_var rfl))) (by omega) (fun _ => rfl) (fun r H3 hr e3 => et_test (ev_niN (ev_var rfl) (ev_var rfl) (hc.mono (e12.trans e3)))) fun r H3 hr _ e3 => ev_var rfl) fun g H3 _ e3 hg => ?_
  have hg : L1 nv H3 g (beyondOf W left) := hg
  have e13 := e12.trans e3
  have hgl : (beyondOf W left).length ≤ 1000 := by
    have := List.length_filter_le (fun r => decide (r ∉ left)) (List.range W.n)
    rw [List.length_range] at this
    unfold beyondOf
    omega
  refine s_retP (evp_tup (Ξ := fun vs H' => ∃ l lost, vs = [.ref k, .ref l] ∧ H l = none ∧ L1 ov H' l lost ∧ Brought W (1 - p) (freeOf left rk) left (beyondOf W left) lost) (fun vs H1 H2 x ⟨l, lost, h1, h0, h2, h3⟩ => ⟨l, lost, h1, h0, h2.mono x, h3⟩) (fun H4 e4 Q kk => eap_cons mono_eq (EvP.of (ev_var rfl)) (eap_cons (Φ := fun v H' => ∃ l lost, v = .ref l ∧ H l = none ∧ L1 ov H' l lost ∧ Brought W (1 - p) (freeOf left rk) left (beyondOf W left) lost) (fun v H1 H2 x ⟨l, lost, h1, h0, h2, h3⟩ => ⟨l, lost, h1, h0, h2.mono x, h3⟩)
    (evpc (ea_cons (ev_var rfl) (ea_cons (ev_minus (a := 1) (b := p) (by omega) ev_c (ev_var rfl)) (ea3 (ev_var rfl) (ev_var rfl) (ev_var rfl)))) fun H5 e5 Q q _ => ⟨a, W, 1 - p, f, freeOf left rk, c, left, g, beyondOf W left, rfl, h.mono (e13.trans e5), hW, (hf.mono e3).mono e5, hc.mono (e13.trans e5), hl, hg.mono e5, hgl, fun v H6 e6 ⟨l, lost, h1, h0, h2, h3⟩ => q v H6 e6 ⟨l, lost, h1, fresh_back (e13.trans e5) h0, h2, h3⟩⟩) eap_nil) H4 e4 Q fun vs H5 e5 hx => kk vs H5 e5 ?_) ?_) ?_
  · obtain ⟨_, _, rfl, rfl, _, _, rfl, ⟨l, lost, rfl, h0, h2, h3⟩, rfl⟩ := hx
    exact ⟨l, lost, rfl, h0, h2, h3⟩
  · rintro vs H' ⟨l, lost, rfl, _⟩
    show 2 ≤ 100000
    decide
  · rintro v H4 e4 ⟨d, vs, rfl, hd, l, lost, rfl, h0, h2, h3⟩
    exact q _ H4 (e13.trans e4) ⟨d, k, l, rk, lost, rfl, hk0, h0, hd, ((hk.mono e2).mono e3).mono e4, h2, B, h3⟩
theorem p_keep (vs : List V) (H : Hp) (Q : VK) (E : XK) (h : spKeep vs H Q E) : t_keep K spAskGame spBring spBeyond { nx := fun _ H' => Q .non H', rt := Q } (start N_keep vs) H := by
  obtain ⟨a, W, p, b, rooms, rfl, h, hW, hp, hb, hr, q⟩ := h
  show tSeq _ _ _ [some (.ref a), some (nv p), some (.ref b), none, none, none, none, none, none, none] H
  have hle := hW.le
  refine q_drop (evc (ea3 (ev_var rfl) (ev_var rfl) (ev_var rfl)) fun H2 e2 Q q _ => ⟨a, W, p, b, rooms, rfl, h.mono e2, hW, hp, hb.mono e2, hr, q⟩) fun H1 e1 => ?_
  have hbey : Rooms W (beyondOf W rooms) := ⟨List.pairwise_lt_range.filter _, fun x hx => List.mem_range.mp (List.mem_filter.mp hx).1⟩
  refine q_asgT2 (Φ := fun v H' => ∃ k rk, v = .ref k ∧ L1 ov H' k rk ∧ Brought W (1 - p) (beyondOf W rooms) (List.range W.n) [] rk) (Ψ := fun _ _ => True) (evp_call (eap_cons mono_eq (EvP.of (ev_var rfl)) (eap_cons mono_eq (EvP.of (ev_minus (a := 1) (b := p) (by omega) ev_c (ev_var rfl))) (eap_cons (Φ := fun v H' => ∃ c, v = .ref c ∧ L1 nv H' c (beyondOf W rooms)) mono_L1 (evpc (ea2 (ev_var rfl) (ev_var rfl)) fun H2 e2 Q q _ => ⟨a, W, b, rooms, rfl, h.mono (e1.trans e2), hW, hb.mono (e1.trans e2), q⟩) eap_nil))) ?_) ?_
  · rintro vs H2 e2 ⟨_, _, rfl, rfl, _, _, rfl, rfl, _, _, rfl, ⟨c, rfl, hc⟩, rfl⟩ Q q E
    exact ⟨a, W, 1 - p, c, beyondOf W rooms, rfl, h.mono (e1.trans e2), hW, by omega, hc, hbey, fun v H3 e3 ⟨c, k, x, rk, h1, h2, h3, h4⟩ => q v H3 e3 ⟨c, .ref k, x, h1, h2, ⟨k, rk, rfl, h3, h4⟩, trivial⟩⟩
  rintro x y H2 e2 ⟨k, rk, rfl, hk, B⟩ _
  have e12 := e1.trans e2
  have hrk : rk.length = W.n := B.len
  refine q_asgL (xs := (keptOf rk).map nv) (el_filtR (g := nv) (fun r => (rg rk r).isNone) (ea1 (ev_lenL (ev_var rfl) hk)) (by omega) (fun _ => rfl) (fun r H3 hr e3 => et_test (ev_isNO (ev_rg (hk.mono e3) (ev_var rfl) (ev_var rfl) hr))) fun r H3 hr _ e3 => ev_var rfl) fun kp H3 _ e3 hkp => ?_
  have hkp : L1 nv H3 kp (keptOf rk) := hkp
  have e13 := e12.trans e3
  refine q_asgL (el_lst ea_nil (Nat.zero_le _)) fun l H4 hl e4 hL => ?_
  have e14 := e13.trans e4
  have hkp4 := hkp.mono e4
  have hk4 := (hk.mono e3).mono e4
  have hpq : p ≠ 1 - p := by omega
  refine q_forR1 (n := (W.n : Int)) (ea1 (ev_wn (h.mono e14) (ev_var rfl))) ⟨by omega, by omega⟩ (fun i σ' H' => ∃ v7 v8, σ' = [some (.ref a), some (nv p), some (.ref b), some (.ref k), some y, some (.ref kp), some (.ref l), v7, v8, none] ∧ ∃ xs : List (Option Nat), Gv ov H3 H' l xs ∧ xs.length = i ∧
      ∀ r, r < i → (r ∈ keptOf rk → W.ow r = p → ∃ t, rg xs r = some t ∧ t ∈ W.st r ∧ t ∈ keptOf rk) ∧ (r ∉ keptOf rk ∨ W.ow r ≠ p → rg xs r = none)) (fun H5 e5 => ⟨_, _, rfl, [], ⟨hl, e4.trans e5, e5 _ _ hL⟩, rfl, fun r hr => absurd hr (Nat.not_lt_zero _)⟩) ?_ ?_
  · rintro r σ' H' hr ⟨v7, v8, rfl, xs, g, hxs, hall⟩
    have hr : r < W.n := by omega
    refine q_asg ev_c fun H5 e5 => ?_
    have g5 := g.mono e5
    have e := e13.trans g5.2.1
    have hx := h.mono e
    have hkp5 := hkp.mono g5.2.1
    refine q_when (et_and (et_test (ev_inN (ev_var rfl) (ev_var rfl) hkp5)) fun _ => et_test (ev_eqN (ev_wow hx (ev_var rfl) (ev_var rfl) hr) (ev_var rfl))) (fun hc H6 e6 => ?_) fun hc H6 e6 => ?_
    · rw [Bool.and_eq_true, decide_eq_true_eq, decide_eq_true_eq] at hc
      obtain ⟨hc1, hc2⟩ := hc
      obtain ⟨s, hs, hsk⟩ := (kept_steps hW B hc1).2 (by rw [hc2]; exact hpq)
      have hmem : s ∈ (W.st r).filter fun s => decide (s ∈ keptOf rk) := List.mem_filter.mpr ⟨hs, decide_eq_true hsk⟩
      obtain ⟨x, rest, hxr⟩ : ∃ x rest, ((W.st r).filter fun s => decide (s ∈ keptOf rk)) = x :: rest := by
        cases hf : (W.st r).filter fun s => decide (s ∈ keptOf rk) with
        | nil => rw [hf] at hmem; cases hmem
        | cons x rest => exact ⟨x, rest, rfl⟩
      have hxm : x ∈ (W.st r).filter fun s => decide (s ∈ keptOf rk) := by rw [hxr]; exact List.mem_cons_self
      rw [List.mem_filter, decide_eq_true_eq] at hxm
      have := hW.st_len hr
      refine s_asg (ev_nth0 (el_filt (g := nv) (e := nv) (fun s => decide (s ∈ keptOf rk)) (evp_wst (hx.mono e6) hW (ev_var rfl) (ev_var rfl) hr) (by omega) (fun _ => rfl) (fun s H7 hs e7 => et_test (ev_inN (ev_var rfl) (ev_var rfl) ((hkp5.mono e6).mono e7))) fun s H7 hs _ e7 => ev_var rfl) hxr) fun H7 e7 => ?_
      refine s_gv (x := some x) ((g5.mono e6).mono e7) (ev_var rfl) (ev_var rfl) (by omega) fun H8 g8 => ⟨_, _, rfl, _, g8, by rw [List.length_append, hxs]; rfl, fun r' hr' => ?_⟩
      show (_ → _ → ∃ t, (xs ++ [some x]).getD r' none = some t ∧ _) ∧ (_ → (xs ++ [some x]).getD r' none = none)
      by_cases hlt : r' < r
      · rw [getD_snoc_lt (by omega)]
        exact hall r' hlt
      · have : r' = r := by omega
        subst this
        rw [getD_snoc_eq (by omega)]
        refine ⟨fun _ _ => ⟨x, rfl, hxm.1, hxm.2⟩, fun z => ?_⟩
        rcases z with z | z
        · exact absurd hc1 z
        · exact absurd hc2 z
    · refine s_gv (x := none) (g5.mono e6) (ev_var rfl) (ev_var rfl) (by omega) fun H8 g8 => ⟨_, _, rfl, _, g8, by rw [List.length_append, hxs]; rfl, fun r' hr' => ?_⟩
      show (_ → _ → ∃ t, (xs ++ [none]).getD r' none = some t ∧ _) ∧ (_ → (xs ++ [none]).getD r' none = none)
      by_cases hlt : r' < r
      · rw [getD_snoc_lt (by omega)]
        exact hall r' hlt
      · have : r' = r := by omega
        subst this
        rw [getD_snoc_eq (by omega)]
        refine ⟨fun h1 h2 => ?_, fun _ => rfl⟩
        rw [decide_eq_true h1, decide_eq_true h2] at hc
        cases hc
  · rintro σ' H' ⟨v7, v8, rfl, xs, g, hxs, hall⟩
    have hn : ((W.n : Int)).toNat = W.n := by omega
    rw [hn] at hxs hall
    have e := e13.trans g.2.1
    refine s_retU (eu_tup (ea_cons (ev_var rfl) (ea3 (ev_var rfl) (ev_var rfl) (ev_var rfl))) (by show 4 ≤ 100000; decide)) fun c H5 _ e5 hc => ?_
    refine q _ H5 (e.trans e5) ⟨c, kp, l, .ref k, y, keptOf rk, xs, rfl, hc, (hkp.mono g.2.1).mono e5, g.2.2.mono e5, ?_⟩
    have hklt : ∀ r ∈ keptOf rk, r < W.n := fun r hr => by
      have := (mem_keptOf.mp hr).1
      omega
    refine ⟨kept_rise, hklt, fun r hr => kept_sub B hr, ⟨hxs, fun r t hrt => ?_⟩, fun r hr ho => (hall r (hklt r hr)).1 hr ho, fun r hr ho => ⟨(hall r (hklt r hr)).2 (.inr ho), ?_⟩⟩
    · have hrn : r < W.n := by
        have := rg_some_lt hrt
        omega
      by_cases h1 : r ∈ keptOf rk
      · by_cases h2 : W.ow r = p
        · obtain ⟨t', h3, h4, _⟩ := (hall r hrn).1 h1 h2
          rw [hrt] at h3
          cases h3
          exact ⟨h2, h4⟩
        · rw [(hall r hrn).2 (.inr h2)] at hrt
          cases hrt
      · rw [(hall r hrn).2 (.inl h1)] at hrt
        cases hrt
    · have h2 := hW.ow r (hklt r hr)
      exact (kept_steps hW B hr).1 (by omega)
end
end FH
namespace FH
open PySem PySem.Spec PyProof.Rows L2 Evl
section
variable {K : PySem.W.Frag}
theorem LT.set {H : Hp} {a p : Addr} {ts : List (Option (Nat × Nat))} {vs : List V} {r : Nat} {x : Nat × Nat} (h : LT H a ts) (hv : H a = some (.lst vs)) (hp : H p = some (.tup [nv x.1, nv x.2])) (hr : r < ts.length) : LT (upd H a (.lst (vs.set r (.ref p)))) a (ts.set r (some x)) := by
  obtain ⟨us, h1, h2, h3⟩ := h
  have e0 : us = vs := by
    rw [h1] at hv
    cases hv
    rfl
  subst e0
  have hne : ∀ {q : Addr} {ys : List V}, H q = some (.tup ys) → q ≠ a := fun hq => ne_of hq h1 (by intro z; cases z)
  refine ⟨us.set r (.ref p), upd_same, by rw [List.length_set, List.length_set, h2], fun i hi => ?_⟩
  rw [List.length_set] at hi
  have h4 := h3 i hi
  by_cases e : r = i
  · subst e
    have : tg (ts.set r (some x)) r = some x := by simp [tg, List.getD_eq_getElem?_getD, hr]
    rw [this]
    exact ⟨p, by rw [List.getElem?_set_self (by omega)], by rw [upd_ne (hne hp)]; exact hp⟩
  · have : tg (ts.set r (some x)) i = tg ts i := by simp [tg, List.getD_eq_getElem?_getD, List.getElem?_set_ne e]
    rw [this]
    cases e2 : tg ts i with
    | none =>
      rw [e2] at h4
      show (us.set r (.ref p))[i]? = some .non
      rw [List.getElem?_set_ne e]
      exact h4
    | some y =>
      rw [e2] at h4
      obtain ⟨q, h5, h6⟩ := h4
      exact ⟨q, by rw [List.getElem?_set_ne e]; exact h5, by rw [upd_ne (hne h6)]; exact h6⟩
theorem LT.none {H : Hp} {a : Addr} {n : Nat} (h : H a = some (.lst ((List.range n).map fun _ => V.non))) : LT H a ((List.range n).map fun _ => none) := by
  refine ⟨_, h, by simp, fun i hi => ?_⟩
  have hi : i < n := by simpa using hi
  have e : tg ((List.range n).map fun _ => (Option.none : Option (Nat × Nat))) i = Option.none := by
    simp [tg, List.getD_eq_getElem?_getD, List.getElem?_map, List.getElem?_range hi]
  rw [e]
  show ((List.range n).map fun _ => V.non)[i]? = some V.non
  rw [List.getElem?_map, List.getElem?_range hi]
  rfl
theorem LT.vals {H : Hp} {a : Addr} {ts : List (Option (Nat × Nat))} (h : LT H a ts) : ∃ vs : List V, H a = some (.lst vs) ∧ vs.length = ts.length := by
  obtain ⟨us, h1, h2, _⟩ := h
  exact ⟨us, h1, h2⟩
theorem p_again (vs : List V) (H : Hp) (Q : VK) (E : XK) (h : spAgain vs H Q E) : t_again K spAskGame spShutOut spPlanBy spCounterBy { nx := fun _ H' => Q .non H', rt := Q } (start N_again vs) H := by
  obtain ⟨a, W, p, b, rooms, rfl, h, hW, hp, hb, hr, q⟩ := h
  show tSeq _ _ _ [some (.ref a), some (nv p), some (.ref b), none, none, none, none, none, none, none] H
  have hle := hW.le
  refine q_drop (evc (ea3 (ev_var rfl) (ev_var rfl) (ev_var rfl)) fun H2 e2 Q q _ => ⟨a, W, p, b, rooms, rfl, h.mono e2, hW, hp, hb.mono e2, hr, q⟩) fun H1 e1 => ?_
  refine q_asgL (el_listRg (ev_wn (h.mono e1) (ev_var rfl)) (by omega)) fun lf0 H2 _ e2 hlf => ?_
  have hlf : L1 nv H2 lf0 (List.range W.n) := hlf
  have e12 := e1.trans e2
  refine q_asgL (el_map (e := nv) (g := fun _ => V.non) (l := List.range W.n) (evp_ref (ev_var rfl) hlf) (by simp; omega) (fun _ => rfl) fun r H3 hr e3 => ev_c) fun tl H3 htl e3 hT => ?_
  have hT := LT.none hT
  have e13 := e12.trans e3
  refine q_asg ev_c fun H4 e4 => ?_
  refine q_asg ev_c fun H5 e5 => ?_
  refine q_while (fun m σ' H' => ∃ (left : List Nat) (ts : List (Option (Nat × Nat))) (turn : Nat) (more : Bool) (lf : Addr) (v7 v8 v9 : Option V), σ' = [some (.ref a), some (nv p), some (.ref b), some (.ref lf), some (.ref tl), some (nv turn), some (.bl more), v7, v8, v9] ∧ Ex H2 H' ∧ L1 nv H' lf left ∧ lf ≠ tl ∧ LT H' tl ts ∧ AgInv W p turn left ts ∧
    (more = false → ∃ k rk, v7 = some (.ref k) ∧ L1 ov H' k rk ∧ AgEnd W p rooms rk) ∧ m = left.length + (if more then 1 else 0)) _ ⟨List.range W.n, _, 0, true, lf0, none, none, none, rfl, (e3.trans e4).trans e5, ((hlf.mono e3).mono e4).mono e5, ne_of_none hlf htl, (hT.mono e4).mono e5, .start, fun z => (by cases z), rfl⟩ ?_
  rintro m σ' H' ⟨left, ts, turn, more, lf, v7, v8, v9, rfl, e, hl, hne, hts, A, hend, hm⟩
  refine ⟨more, et_B (ev_var rfl), fun hmore H6 e6 => ⟨fun σ2 H2' => ∃ m', m' < m ∧ ∃ (left : List Nat) (ts : List (Option (Nat × Nat))) (turn : Nat) (more : Bool) (lf : Addr) (v7 v8 v9 : Option V), σ2 = [some (.ref a), some (nv p), some (.ref b), some (.ref lf), some (.ref tl), some (nv turn), some (.bl more), v7, v8, v9] ∧ Ex H2 H2' ∧ L1 nv H2' lf left ∧ lf ≠ tl ∧ LT H2' tl ts ∧ AgInv W p turn left ts ∧
    (more = false → ∃ k rk, v7 = some (.ref k) ∧ L1 ov H2' k rk ∧ AgEnd W p rooms rk) ∧ m' = left.length + (if more then 1 else 0), fun σ2 H2 hN => hN, ?_⟩, fun hmore H6 e6 => ?_⟩
  · subst hmore
    have e06 := e12.trans (e.trans e6)
    have hl6 := hl.mono e6
    have hts6 := hts.mono e6
    have hlr : Rooms W left := ⟨A.rise, fun r hr => (A.mem.mp hr).1⟩
    have hll := hlr.len hW
    obtain ⟨us0, hus0, _⟩ := hts6.vals
    -- ranks, lost
    refine q_asgT2' (Θ := fun x y H' => ∃ k l rk lost, x = .ref k ∧ y = .ref l ∧ k ≠ tl ∧ l ≠ tl ∧ L1 ov H' k rk ∧ L1 ov H' l lost ∧ Brought W p rooms left [] rk ∧ Brought W (1 - p) (freeOf left rk) left (beyondOf W left) lost) (evpc (ea_cons (ev_var rfl) (ea3 (ev_var rfl) (ev_var rfl) (ev_var rfl))) fun H7 e7 Q q _ => ⟨a, W, p, b, rooms, lf, left, rfl, h.mono (e06.trans e7), hW, hp, hb.mono (e06.trans e7), hl6.mono e7, hlr,
      fun v H8 e8 ⟨d, k, l, rk, lost, h1, h2, h3, h4, h5, h6, h7, h8⟩ => q v H8 e8 ⟨d, .ref k, .ref l, h1, h4, k, l, rk, lost, rfl, rfl, (ne_of_none (e7 _ _ hus0) h2).symm, (ne_of_none (e7 _ _ hus0) h3).symm, h5, h6, h7, h8⟩⟩) ?_
    rintro x y H7 e7 ⟨k, ll, rk, lost, rfl, rfl, hkt, hlt, hk7, hl7, B, L⟩
    have hlost : lost.length = W.n := L.len
    have htl0 : H2 tl = none := htl
    have e27 := (e.trans e6).trans e7
    -- the turns are written
    refine q_forLn (ev_var rfl) (sq_of (hl6.mono e7)) (fun i σ' H' => ∃ v, σ' = [some (.ref a), some (nv p), some (.ref b), some (.ref lf), some (.ref tl), some (nv turn), some (.bl true), some (.ref k), some (.ref ll), v] ∧ Ex H2 H' ∧ L1 nv H' lf left ∧ L1 ov H' k rk ∧ L1 ov H' ll lost ∧ LT H' tl (agSet turn lost (left.take i) ts))
      (fun H8 e8 => ⟨_, rfl, e27.trans e8, (hl6.mono e7).mono e8, hk7.mono e8, hl7.mono e8, (hts6.mono e7).mono e8⟩) (fun i σ' H' _ ⟨v, _, _, hq, _⟩ => sq_of hq) ?_ ?_
    · rintro i x σ' H8 hi ⟨v, rfl, e8, hl8, hk8, hll8, hts8⟩
      rw [List.getElem?_map] at hi
      obtain ⟨r, hri, rfl⟩ := Option.map_eq_some_iff.mp hi
      have hr : r < W.n := hlr.2 r (List.mem_of_getElem? hri)
      have htake := take_succ' hri
      refine s_when (et_test (ev_notNO (ev_rg hll8 (ev_var rfl) (ev_var rfl) (by omega)))) (fun hc H9 e9 => ?_) fun hc H9 e9 => ?_
      · obtain ⟨j, hj⟩ := Option.isSome_iff_exists.mp hc
        obtain ⟨us, hus, husl⟩ := (hts8.mono e9).vals
        have hrl : r < us.length := by
          rw [husl, agSet_len, A.len]
          exact hr
        refine eu_tup (ea2 (v := nv turn) (w := nv j) (ev_var rfl) (ev_is (ev_rg (hll8.mono e9) (ev_var rfl) (ev_var rfl) (by omega)) (ov_rg hj))) (by show 2 ≤ 100000; decide) H9 (Ex.refl H9) _ fun pr H10 hpr e10 hp10 => ?_
        refine (ev_var rfl : Ev (tVar 4) _ H9 (.ref tl)) H10 e10 _ fun H11 e11 => (ev_var rfl : Ev (tVar 9) _ H9 (nv r)) H11 (e10.trans e11) _ fun H12 e12 => ⟨tl, us, (r : Int), r, rfl, rfl, ((e10.trans e11).trans e12) _ _ hus, ixN_nat hrl, ?_⟩
        have e9' : Ex H9 H12 := (e10.trans e11).trans e12
        have hset := LT.set (r := r) (x := (turn, j)) ((hts8.mono e9).mono e9') (e9' _ _ hus) ((e11.trans e12) _ _ hp10) (by rw [agSet_len, A.len]; exact hr)
        refine ⟨_, rfl, Ex.mut ((e8.trans e9).trans e9') htl0, ?_, ?_, ?_, ?_⟩
        · show upd _ _ _ _ = _
          rw [upd_ne hne]
          exact (hl8.mono e9).mono e9'
        · show upd _ _ _ _ = _
          rw [upd_ne hkt]
          exact (hk8.mono e9).mono e9'
        · show upd _ _ _ _ = _
          rw [upd_ne hlt]
          exact (hll8.mono e9).mono e9'
        · rw [htake, agSet_snoc, hj]
          exact hset
      · refine ⟨_, rfl, e8.trans e9, hl8.mono e9, hk8.mono e9, hll8.mono e9, ?_⟩
        have hn : rg lost r = none := by
          cases hg : rg lost r with
          | none => rfl
          | some j => rw [hg] at hc; cases hc
        rw [htake, agSet_snoc, hn]
        exact hts8.mono e9
    · rintro σ' H8 ⟨v, rfl, e8, hl8, hk8, hll8, hts8⟩
      rw [List.length_map, List.take_of_length_le (Nat.le_refl _)] at hts8
      have hlen' : (agSet turn lost left ts).length = W.n := by rw [agSet_len, A.len]
      -- left
      refine q_asgL (xs := (left.filter fun r => (tg (agSet turn lost left ts) r).isNone).map nv) (el_filt (g := nv) (e := nv) (fun r => (tg (agSet turn lost left ts) r).isNone) (evp_ref (ev_var rfl) hl8) (by omega) (fun _ => rfl) (fun r H9 hr e9 => et_test (ev_tgIs (hts8.mono e9) (ev_var rfl) (ev_var rfl) (by rw [hlen']; exact hlr.2 r hr))) fun r H9 hr _ e9 => ev_var rfl) fun lf' H9 hlf' e9 hL9 => ?_
      have hL9 : L1 nv H9 lf' (left.filter fun r => (tg (agSet turn lost left ts) r).isNone) := hL9
      obtain ⟨us, hus, _⟩ := hts8.vals
      have hne' : lf' ≠ tl := (ne_of_none hus hlf').symm
      -- more
      refine q_asg (ev_gt (ev_lenNL (e := ov) (xs := lost.filter fun o => o.isSome) (el_filt (g := ov) (e := ov) (fun o => o.isSome) (evp_ref (ev_var rfl) (hll8.mono e9)) (by omega) (fun _ => rfl) (fun o H10 ho e10 => et_test (ev_notNO (ev_var rfl))) fun o H10 ho _ e10 => ev_var rfl)) ev_c) fun H10 e10 => ?_
      refine s_asg (v := nv (turn + 1)) (ev_plus (ev_var rfl) ev_c) fun H11 e11 => ?_
      have e911 := (e9.trans e10).trans e11
      have A' := A.next hW hp B L
      have key : (∃ r j, rg lost r = some j) ↔ 0 < (lost.filter fun o => o.isSome).length := by
        rw [List.length_pos_iff_exists_mem]
        constructor
        · rintro ⟨r, j, hj⟩
          have hrl := rg_some_lt hj
          refine ⟨some j, List.mem_filter.mpr ⟨?_, rfl⟩⟩
          have : lost[r] = some j := by
            simp only [rg, List.getD_eq_getElem?_getD, List.getElem?_eq_getElem hrl] at hj
            exact hj
          rw [← this]
          exact List.getElem_mem _
        · rintro ⟨o, ho⟩
          obtain ⟨h1, h2⟩ := List.mem_filter.mp ho
          obtain ⟨r, hr⟩ := List.getElem?_of_mem h1
          obtain ⟨j, rfl⟩ := Option.isSome_iff_exists.mp h2
          exact ⟨r, j, by simp [rg, List.getD_eq_getElem?_getD, hr]⟩
      by_cases hpos : 0 < (lost.filter fun o => o.isSome).length
      · rw [decide_eq_true hpos]
        obtain ⟨r, j, hj⟩ := key.mpr hpos
        have hlt2 := ag_lt A L hj
        exact ⟨_, by rw [hm]; exact Nat.succ_lt_succ hlt2, _, _, turn + 1, true, lf', _, _, _, rfl, e8.trans e911, (hL9.mono e10).mono e11, hne', hts8.mono e911, A', fun z => (by cases z), rfl⟩
      · rw [decide_eq_false hpos]
        have hno : ∀ r, rg lost r = none := fun r => by
          cases hg : rg lost r with
          | none => rfl
          | some j => exact absurd (key.mp ⟨r, j, hg⟩) hpos
        refine ⟨_, ?_, _, _, turn + 1, false, lf', _, _, _, rfl, e8.trans e911, (hL9.mono e10).mono e11, hne', hts8.mono e911, A', fun _ => ⟨k, rk, rfl, hk8.mono e911, ag_end hW hp A B L hno⟩, rfl⟩
        rw [hm]
        exact Nat.lt_succ_of_le (List.length_filter_le _ _)
  · obtain ⟨k, rk, rfl, hk, hE⟩ := hend hmore
    have e06 := e12.trans (e.trans e6)
    have hk6 := hk.mono e6
    have hts6 := hts.mono e6
    refine s_retP (evp_tup (Ξ := fun vs H' => ∃ pl plan y, vs = [.ref k, .ref pl, .ref tl, y] ∧ L1 ov H' pl plan ∧ plan.length = W.n ∧ (∀ r k, r < W.n → rg rk r = some k → W.ow r = p → ∃ t, rg plan r = some t ∧ t ∈ W.st r ∧ StepTo rk r t) ∧ ∀ r, r < W.n → W.ow r ≠ p ∨ rg rk r = none → rg plan r = none)
      (fun vs H1 H2 x ⟨pl, plan, y, h1, h2, h3⟩ => ⟨pl, plan, y, h1, h2.mono x, h3⟩) (fun H7 e7 Q kk => eap_cons mono_eq (EvP.of (ev_var rfl)) (eap_cons (Φ := fun v H' => ∃ pl plan, v = .ref pl ∧ L1 ov H' pl plan ∧ plan.length = W.n ∧ (∀ r k, r < W.n → rg rk r = some k → W.ow r = p → ∃ t, rg plan r = some t ∧ t ∈ W.st r ∧ StepTo rk r t) ∧ ∀ r, r < W.n → W.ow r ≠ p ∨ rg rk r = none → rg plan r = none)
        (fun v H1 H2 x ⟨pl, plan, h1, h2, h3⟩ => ⟨pl, plan, h1, h2.mono x, h3⟩) (evpc (ea3 (ev_var rfl) (ev_var rfl) (ev_var rfl)) fun H8 e8 Q q _ => ⟨a, W, p, k, rk, rfl, h.mono (e06.trans e8), hW, hk6.mono e8, hE.len, hE.mine, q⟩)
        (eap_cons mono_eq (EvP.of (ev_var rfl)) (eap_cons (Φ := fun _ _ => True) (fun _ _ _ _ h => h) (evpc (ea3 (ev_var rfl) (ev_minus (a := 1) (b := p) (by omega) ev_c (ev_var rfl)) (ev_var rfl)) fun H8 e8 Q q _ => ⟨a, W, 1 - p, tl, ts, rfl, h.mono (e06.trans e8), hW, hts6.mono e8, A.len, fun r x hx ho => A.ok r x hx (by omega), q⟩) eap_nil))) H7 e7 Q fun vs H8 e8 hx => kk vs H8 e8 ?_) ?_) ?_
    · obtain ⟨_, _, rfl, rfl, _, _, rfl, ⟨pl, plan, rfl, h2, h3⟩, _, _, rfl, rfl, y, _, rfl, _, rfl⟩ := hx
      exact ⟨pl, plan, y, rfl, h2, h3⟩
    · rintro vs H' ⟨pl, plan, y, rfl, _⟩
      show 4 ≤ 100000
      decide
    · rintro v H7 e7 ⟨c, vs, rfl, hc, pl, plan, y, rfl, hpl, hlen, h1, h2⟩
      refine q _ H7 (e06.trans e7) ⟨c, k, pl, .ref tl, y, rk, plan, rfl, hc, hk6.mono e7, hpl, hE.len, ⟨hlen, fun r t hrt => ?_⟩, hE.zero, fun r j hj ho => ?_, fun r j hj ho => ⟨?_, hE.oth r j hj ho⟩⟩
      · have hrn : r < W.n := by
          have := rg_some_lt hrt
          omega
        by_cases h3 : W.ow r = p
        · cases h4 : rg rk r with
          | none =>
            rw [h2 r hrn (.inr h4)] at hrt
            cases hrt
          | some j =>
            obtain ⟨t', h5, h6, _⟩ := h1 r j hrn h4 h3
            rw [hrt] at h5
            cases h5
            exact ⟨h3, h6⟩
        · rw [h2 r hrn (.inl h3)] at hrt
          cases hrt
      · have hrn : r < W.n := by
          have := rg_some_lt hj
          have := hE.len
          omega
        obtain ⟨t, h5, _, h6⟩ := h1 r j hrn hj ho
        exact ⟨t, h5, h6⟩
      · have hrn : r < W.n := by
          have := rg_some_lt hj
          have := hE.len
          omega
        exact h2 r hrn (.inl ho)
end
end FH
namespace FH
open PySem PySem.Spec PyProof.Rows L2 Evl
section
variable {K : PySem.W.Frag}
theorem GOk.len {S : List (List Nat)} (G : GOk S) (r : Nat) : (gs S r).length ≤ S.length := len_le_of_lt (G.nd r) (G.lt r)
/-- sorted(xs), no doubles -/
theorem ev_sorted {σ : L2.St} {H : Hp} {te : TE} {p : Addr} {xs : List Nat} (ha : Ev te σ H (.ref p)) (h : L1 nv H p xs) (hl : xs.length < 64) (nd : xs.Nodup) :
    EvP (tCB (rSorted K) (tCons te tNil)) σ H (fun v H' => ∃ d ys, v = .ref d ∧ H d = none ∧ L1 nv H' d ys ∧ Rising ys ∧ ∀ y, y ∈ ys ↔ y ∈ xs) := fun H1 e Q q => ha H1 e _ fun H2 e2 => by
  refine ⟨p, xs.map Int.ofNat, rfl, sq_of ?_, by rw [List.length_map]; exact hl, fun ns d hp hs hd => ?_⟩
  · rw [List.map_map]
    exact (e.trans e2) _ _ h
  · have hns : ∀ n ∈ ns, ∃ k : Nat, k ∈ xs ∧ n = Int.ofNat k := fun n hn => by
      obtain ⟨k, hk, e⟩ := List.mem_map.mp (hp.mem_iff.mp hn)
      exact ⟨k, hk, e.symm⟩
    have hmap : (ns.map Int.toNat).map Int.ofNat = ns := by
      rw [List.map_map]
      refine (List.map_congr_left fun n hn => ?_).trans (List.map_id ns)
      obtain ⟨k, _, rfl⟩ := hns n hn
      rfl
    have hperm : (ns.map Int.toNat).Perm xs := by
      have h1 := hp.map Int.toNat
      rw [List.map_map] at h1
      have h2 : xs.map (Int.toNat ∘ Int.ofNat) = xs := (List.map_congr_left fun n _ => rfl).trans (List.map_id xs)
      rw [h2] at h1
      exact h1
    have hnd : (ns.map Int.toNat).Nodup := hperm.nodup_iff.mpr nd
    refine q _ _ (e2.trans (Ex.new hd)) ⟨d, ns.map Int.toNat, rfl, fresh_back (e.trans e2) hd, ?_, ?_, fun y => hperm.mem_iff⟩
    · show upd _ _ _ _ = _
      rw [upd_same]
      refine congrArg (fun z => some (HO.lst z)) ?_
      conv => lhs; rw [← hmap]
      rw [List.map_map]
      rfl
    · have h1 : (ns.map Int.toNat).Pairwise (· ≤ ·) := by
        rw [List.pairwise_map]
        exact hs.imp fun {a b} h => Int.toNat_le_toNat h
      have h2 : (ns.map Int.toNat).Pairwise (· ≠ ·) := hnd
      exact (h1.and h2).imp fun {a b} ⟨h3, h4⟩ => Nat.lt_of_le_of_ne h3 h4
theorem p_leading (vs : List V) (H : Hp) (Q : VK) (E : XK) (h : spLeading vs H Q E) : t_leading K { nx := fun _ H' => Q .non H', rt := Q } (start N_leading vs) H := by
  obtain ⟨a, S, b, kept, c, goal, rfl, hS, G, hSl, hb, hnd, hlt, hc, q⟩ := h
  show tSeq _ _ _ [some (.ref a), some (.ref b), some (.ref c), none, none, none, none, none] H
  have hkl : kept.length ≤ 24 := Nat.le_trans (len_le_of_lt hnd hlt) hSl
  refine q_asgL (xs := (kept.filter fun r => decide (r ∈ goal)).map nv) (el_filt (g := nv) (e := nv) (fun r => decide (r ∈ goal)) (evp_ref (ev_var rfl) hb) (by omega) (fun _ => rfl) (fun r H1 hr e1 => et_test (ev_inN (ev_var rfl) (ev_var rfl) (hc.mono e1))) fun r H1 hr _ e1 => ev_var rfl) fun f0 H1 _ e1 hf0 => ?_
  have hf0 : L1 nv H1 f0 (kept.filter fun r => decide (r ∈ goal)) := hf0
  refine q_asg ev_c fun H2 e2 => ?_
  refine q_while (fun m σ' H' => ∃ (found : List Nat) (more : Bool) (ff : Addr) (v5 : Option V), σ' = [some (.ref a), some (.ref b), some (.ref c), some (.ref ff), some (.bl more), v5, none, none] ∧ Ex H H' ∧ L1 nv H' ff found ∧ LdInv S kept goal found ∧
    (more = false → ldNew S kept found = []) ∧ m = (kept.length - found.length) + (if more then 1 else 0)) _ ⟨_, true, f0, none, rfl, e1.trans e2, hf0.mono e2, .start hnd, fun z => (by cases z), rfl⟩ ?_
  rintro m σ' H' ⟨found, more, ff, v5, rfl, e, hf, I, hend, hm⟩
  refine ⟨more, et_B (ev_var rfl), fun hmore H3 e3 => ⟨fun σ2 H2' => ∃ m', m' < m ∧ ∃ (found : List Nat) (more : Bool) (ff : Addr) (v5 : Option V), σ2 = [some (.ref a), some (.ref b), some (.ref c), some (.ref ff), some (.bl more), v5, none, none] ∧ Ex H H2' ∧ L1 nv H2' ff found ∧ LdInv S kept goal found ∧
    (more = false → ldNew S kept found = []) ∧ m' = (kept.length - found.length) + (if more then 1 else 0), fun σ2 H2 hN => hN, ?_⟩, fun hmore H3 e3 => ?_⟩
  · subst hmore
    have e03 := e.trans e3
    have hf3 := hf.mono e3
    have hfl := I.len
    refine q_asgL (xs := (ldNew S kept found).map nv) (el_filt (g := nv) (e := nv) (fun r => decide (r ∉ found) && decide (0 < ((gs S r).filter fun t => decide (t ∈ found)).length)) (evp_ref (ev_var rfl) (hb.mono e03)) (by omega) (fun _ => rfl) (fun r H4 hr e4 => et_and (et_test (ev_niN (ev_var rfl) (ev_var rfl) (hf3.mono e4))) fun _ => et_test (ev_gt (ev_lenNL (e := nv) (xs := (gs S r).filter fun t => decide (t ∈ found))
      (el_filt (g := nv) (e := nv) (fun t => decide (t ∈ found)) (evp_row (hS.mono (e03.trans e4)) (ev_var rfl) (ev_var rfl) (hlt r hr)) (by have := G.len r; omega) (fun _ => rfl) (fun t H5 ht e5 => et_test (ev_inN (ev_var rfl) (ev_var rfl) ((hf3.mono e4).mono e5))) fun t H5 ht _ e5 => ev_var rfl)) ev_c)) fun r H4 hr _ e4 => ev_var rfl) fun nw H4 _ e4 hn => ?_
    have hn : L1 nv H4 nw (ldNew S kept found) := hn
    have I' := I.next hnd
    have hnl : (ldNew S kept found).length ≤ 24 := Nat.le_trans (List.length_filter_le _ _) hkl
    refine q_asgL (el_cat (ev_var rfl) (ev_var rfl) (hf3.mono e4) hn (by omega)) fun f2 H5 _ e5 hf2 => ?_
    have hf2 : L1 nv H5 f2 (found ++ ldNew S kept found) := hf2
    refine s_asg (ev_gt (ev_lenL (ev_var rfl) (hn.mono e5)) ev_c) fun H6 e6 => ?_
    have hl' := I'.len
    rw [List.length_append] at hl'
    by_cases hnil : ldNew S kept found = []
    · have hz : decide (0 < (ldNew S kept found).length) = false := by rw [hnil]; rfl
      rw [hz]
      refine ⟨kept.length - found.length, by rw [hm]; exact Nat.lt_succ_self _, found, false, f2, _, rfl, ((e03.trans e4).trans e5).trans e6, ?_, I, fun _ => hnil, rfl⟩
      rw [hnil, List.append_nil] at hf2
      exact hf2.mono e6
    · have hp := List.length_pos_iff.mpr hnil
      rw [decide_eq_true hp]
      refine ⟨(kept.length - (found ++ ldNew S kept found).length) + 1, ?_, _, true, f2, _, rfl, ((e03.trans e4).trans e5).trans e6, hf2.mono e6, I', fun z => (by cases z), rfl⟩
      rw [hm, List.length_append]
      simp only [if_true]
      omega
  · refine s_retP (ev_sorted (ev_var rfl) (hf.mono e3) (by have := I.len; omega) I.nd) fun v H4 e4 ⟨d, ys, hv, h0, h1, h2, h3⟩ => q v H4 ((e.trans e3).trans e4) ⟨d, ys, hv, fresh_back (e.trans e3) h0, h1, h2, fun y => ?_⟩
    rw [h3]
    exact ⟨I.ld y, fun hy => I.stop (hend hmore) hy⟩
theorem q_app_gen {σ : L2.St} {D : Ends} {tz : TS} {H : Hp} {l : Addr} {xs ys : List V} {ta te : TE} (hl : H l = some (.lst xs)) (ha : Ev ta σ H (.ref l)) (h : EvU te σ H ys) (hz : xs.length < 100000) (k : ∀ p H1, Ex H H1 → tz D σ (upd H1 l (.lst (xs ++ [.ref p])))) :
    tSeq (tDrop (tBM K "list" rAppend ta (tCons te tNil))) tz D σ H := q_appU hl ha h hz fun p H1 _ e _ => k p H1 e
theorem p_taken_off (vs : List V) (H : Hp) (Q : VK) (E : XK) (h : spTaken vs H Q E) : t_taken_off K spInner spLeading { nx := fun _ H' => Q .non H', rt := Q } (start N_taken_off vs) H := by
  obtain ⟨a, W, b, rooms, c, marks, rfl, h, hW, hb, hr, hc, hm, q⟩ := h
  show tSeq _ _ _ [some (.ref a), some (.ref b), some (.ref c), none, none, none, none, none, none, none, none, none] H
  have hle := hW.le
  have hrl := hr.len hW
  refine q_asgL (el_list (ev_var rfl) (sq_of hb)) fun kk0 H1 _ e1 hk0 => ?_
  have hk0 : L1 nv H1 kk0 rooms := hk0
  refine q_asgL (el_lst ea_nil (Nat.zero_le _)) fun rw' H2 hrw e2 hR => ?_
  refine q_asg ev_c fun H3 e3 => ?_
  have hne0 : kk0 ≠ rw' := ne_of_none hk0 hrw
  -- what holds between two turns
  refine q_while (fun m σ' H' => ∃ (kept : List Nat) (more : Bool) (kk : Addr) (v6 v7 v8 v9 v10 : Option V) (rvs : List V), σ' = [some (.ref a), some (.ref b), some (.ref c), some (.ref kk), some (.ref rw'), some (.bl more), v6, v7, v8, v9, v10, none] ∧ Ex H1 H' ∧ H' rw' = some (.lst rvs) ∧ rvs.length + kept.length ≤ 24 ∧ L1 nv H' kk kept ∧ kk ≠ rw' ∧
    TkInv W rooms marks kept ∧ (more = false → FairRes W rooms marks kept) ∧ m = kept.length + (if more then 1 else 0)) _ ⟨rooms, true, kk0, none, none, none, none, none, [], rfl, e2.trans e3, e3 _ _ hR, by simpa using hrl, (hk0.mono e2).mono e3, hne0, .start hr.1, fun z => (by cases z), rfl⟩ ?_
  rintro m σ' H' ⟨kept, more, kk, v6, v7, v8, v9, v10, rvs, rfl, e, hrv, hrl2, hk, hne, T, hend, hm'⟩
  refine ⟨more, et_B (ev_var rfl), fun hmore H4 e4 => ⟨fun σ2 H2' => ∃ m', m' < m ∧ ∃ (kept : List Nat) (more : Bool) (kk : Addr) (v6 v7 v8 v9 v10 : Option V) (rvs : List V), σ2 = [some (.ref a), some (.ref b), some (.ref c), some (.ref kk), some (.ref rw'), some (.bl more), v6, v7, v8, v9, v10, none] ∧ Ex H1 H2' ∧ H2' rw' = some (.lst rvs) ∧ rvs.length + kept.length ≤ 24 ∧ L1 nv H2' kk kept ∧ kk ≠ rw' ∧
    TkInv W rooms marks kept ∧ (more = false → FairRes W rooms marks kept) ∧ m' = kept.length + (if more then 1 else 0), fun σ2 H2 hN => hN, ?_⟩, fun hmore H4 e4 => ?_⟩
  · subst hmore
    have e14 := e.trans e4
    have e04 := e1.trans e14
    have hk4 := hk.mono e4
    have hkn : ∀ r ∈ kept, r < W.n := fun r hr' => hr.2 r (T.sub r hr')
    have hkl : kept.length ≤ 24 := by omega
    refine q_asg ev_c fun H5 e5 => ?_
    -- steps
    refine q_asgP (Φ := fun v H' => ∃ c, v = .ref c ∧ LL nv H' c (W.inner kept)) (evpc (ea2 (ev_var rfl) (ev_var rfl)) fun H6 e6 Q q _ => ⟨a, W, kk, kept, rfl, h.mono ((e04.trans e5).trans e6), hW, (hk4.mono e5).mono e6, q⟩) ?_
    rintro v H6 e6 ⟨sp, rfl, hsp⟩
    have e56 := e5.trans e6
    -- stuck
    refine q_asgL (xs := (stuckOf W kept).map nv) (el_filt (g := nv) (e := nv) (fun r => decide ((gs (W.inner kept) r).length = 0)) (evp_ref (ev_var rfl) (hk4.mono e56)) (by omega) (fun _ => rfl) (fun r H7 hr' e7 => ?_) fun r H7 hr _ e7 => ev_var rfl) fun sk H7 hskn e7 hsk => ?_
    · obtain ⟨p, hp, hev⟩ := ev_row (K := K) (σ := (wipe [some (.ref a), some (.ref b), some (.ref c), some (.ref kk), some (.ref rw'), some (.bl false), some (.ref sp), v7, v8, v9, v10, none] [11]).set 11 (some (nv r))) (ta := tVar 6) (tb := tVar 11) (hsp.mono e7) (ev_var rfl) (ev_var rfl) (by rw [Wd.inner_len]; exact hkn r hr')
      exact et_test (ev_eqN (ev_lenL hev hp) ev_c)
    have hsk : L1 nv H7 sk (stuckOf W kept) := hsk
    have e57 := e56.trans e7
    have hk7 := hk4.mono e57
    have hrv7 := e57 _ _ (e4 _ _ hrv)
    have hskne : sk ≠ rw' := (ne_of_none (e56 _ _ (e4 _ _ hrv)) hskn).symm
    -- behind the first if
    have rest : ∀ (kept1 : List Nat) (more1 : Bool) (kk1 : Addr) (rvs1 : List V) (H8 : Hp), Ex H1 H8 → H8 rw' = some (.lst rvs1) → rvs1.length + kept1.length ≤ 24 → L1 nv H8 kk1 kept1 → kk1 ≠ rw' → TkIn W rooms marks kept [] more1 kept1 →
        tFor (iList K (tVar 2)) (gName 8) (tSeq (tAsg (tCall spInner [] E0 (tCons (tVar 0) (tCons (tVar 3) tNil))) (gName 6))
          (tSeq (tAsg (tCall spLeading [] E0 (tCons (tVar 6) (tCons (tVar 3) (tCons (tLc (iList K (tVar 3)) (gName 11) (tTest (tOp (rIn K false) (tVar 8) (tOp (rIxL K) (tOp (rIxT K) (tVar 0) (tC (.int 1))) (tVar 11)))) (tVar 11) [11]) tNil)))) (gName 9))
          (tSeq (tAsg (tLc (iList K (tVar 3)) (gName 11) (tTest (tOp (rIn K true) (tVar 11) (tVar 9))) (tVar 11) [11]) (gName 10))
          (tIfS (tTest (tOp rGt (tCB (Evl.rLenS K) (tCons (tVar 10) tNil)) (tC (.int 0)))) (tSeq (tDrop (tBM K "list" rAppend (tVar 4) (tCons (tTup (tCons (tVar 10) (tCons (tVar 8) tNil))) tNil)))
          (tSeq (tAsg (tVar 9) (gName 3))
          (tAsg (tC (.bl true)) (gName 5)))) tNext))))
        { nx := fun σ2 H2' => ∃ m', m' < m ∧ ∃ (kept : List Nat) (more : Bool) (kk : Addr) (v6 v7 v8 v9 v10 : Option V) (rvs : List V), σ2 = [some (.ref a), some (.ref b), some (.ref c), some (.ref kk), some (.ref rw'), some (.bl more), v6, v7, v8, v9, v10, none] ∧ Ex H1 H2' ∧ H2' rw' = some (.lst rvs) ∧ rvs.length + kept.length ≤ 24 ∧ L1 nv H2' kk kept ∧ kk ≠ rw' ∧
            TkInv W rooms marks kept ∧ (more = false → FairRes W rooms marks kept) ∧ m' = kept.length + (if more then 1 else 0), rt := Q,
          ct := fun σ2 H2' => ∃ m', m' < m ∧ ∃ (kept : List Nat) (more : Bool) (kk : Addr) (v6 v7 v8 v9 v10 : Option V) (rvs : List V), σ2 = [some (.ref a), some (.ref b), some (.ref c), some (.ref kk), some (.ref rw'), some (.bl more), v6, v7, v8, v9, v10, none] ∧ Ex H1 H2' ∧ H2' rw' = some (.lst rvs) ∧ rvs.length + kept.length ≤ 24 ∧ L1 nv H2' kk kept ∧ kk ≠ rw' ∧
            TkInv W rooms marks kept ∧ (more = false → FairRes W rooms marks kept) ∧ m' = kept.length + (if more then 1 else 0), bk := tRet (tTup (tCons (tVar 4) (tCons (tVar 3) tNil))) { nx := fun _ H' => Q .non H', rt := Q } }
        [some (.ref a), some (.ref b), some (.ref c), some (.ref kk1), some (.ref rw'), some (.bl more1), some (.ref sp), some (.ref sk), v8, v9, v10, none] H8 := fun kept1 more1 kk1 rvs1 H8 e18 hrv8 hrl8 hk8 hne8 I0 => by
      refine s_forLn (ev_var rfl) (sq_of (hc.mono (e1.trans e18))) (fun i σ' H' => ∃ (kept1 : List Nat) (more1 : Bool) (kk1 : Addr) (rvs1 : List V) (w6 w8 w9 w10 : Option V), σ' = [some (.ref a), some (.ref b), some (.ref c), some (.ref kk1), some (.ref rw'), some (.bl more1), w6, some (.ref sk), w8, w9, w10, none] ∧ Ex H1 H' ∧ H' rw' = some (.lst rvs1) ∧ rvs1.length + kept1.length ≤ 24 ∧ L1 nv H' kk1 kept1 ∧ kk1 ≠ rw' ∧ TkIn W rooms marks kept (marks.take i) more1 kept1)
        (fun H9 e9 => ⟨kept1, more1, kk1, rvs1, _, _, _, _, rfl, e18.trans e9, e9 _ _ hrv8, hrl8, hk8.mono e9, hne8, I0⟩) (fun i σ' H' _ ⟨_, _, _, _, _, _, _, _, _, e9, _⟩ => sq_of (hc.mono (e1.trans e9))) ?_ ?_
      · rintro i x σ' H9 hi ⟨kept1, more1, kk1, rvs1, w6, w8, w9, w10, rfl, e19, hrv9, hrl9, hk9, hne9, I⟩
        rw [List.getElem?_map] at hi
        obtain ⟨mm, hmi, rfl⟩ := Option.map_eq_some_iff.mp hi
        have hmm : mm ∈ marks := List.mem_of_getElem? hmi
        have htake := take_succ' hmi
        have hkn1 : ∀ r ∈ kept1, r < W.n := fun r hr' => hr.2 r (I.tk.sub r hr')
        have hkl1 : kept1.length ≤ 24 := by omega
        have e09 := e1.trans e19
        -- steps
        refine q_asgP (Φ := fun v H' => ∃ c, v = .ref c ∧ LL nv H' c (W.inner kept1)) (evpc (ea2 (ev_var rfl) (ev_var rfl)) fun H10 e10 Q q _ => ⟨a, W, kk1, kept1, rfl, h.mono (e09.trans e10), hW, hk9.mono e10, q⟩) ?_
        rintro v H10 e10 ⟨sp1, rfl, hsp1⟩
        -- near
        have hmOf : ∀ {H11 : Hp}, Ex H10 H11 → EvL (tLc (iList K (tVar 3)) (gName 11) (tTest (tOp (rIn K false) (tVar 8) (tOp (rIxL K) (tOp (rIxT K) (tVar 0) (tC (.int 1))) (tVar 11)))) (tVar 11) [11]) [some (.ref a), some (.ref b), some (.ref c), some (.ref kk1), some (.ref rw'), some (.bl more1), some (.ref sp1), some (.ref sk), some (sv mm), w9, w10, none] H11 ((mOf W kept1 mm).map nv) := fun {H11} e11 =>
          el_filt (g := nv) (e := nv) (fun r => decide (mm ∈ W.mks r)) (evp_ref (ev_var rfl) ((hk9.mono e10).mono e11)) (by omega) (fun _ => rfl) (fun r H12 hr' e12 => by
            obtain ⟨s, hs, hev⟩ := ev_wmk (K := K) (σ := (wipe [some (.ref a), some (.ref b), some (.ref c), some (.ref kk1), some (.ref rw'), some (.bl more1), some (.ref sp1), some (.ref sk), some (sv mm), w9, w10, none] [11]).set 11 (some (nv r))) (ta := tVar 0) (tb := tVar 11) (h.mono (((e09.trans e10).trans e11).trans e12)) hW (ev_var rfl) (ev_var rfl) (hkn1 r hr')
            exact et_test (ev_inS (ev_var rfl) hev hs)) fun r H12 hr _ e12 => ev_var rfl
        refine q_asgP (Φ := fun v H' => ∃ d ys, v = .ref d ∧ H10 d = none ∧ L1 nv H' d ys ∧ Rising ys ∧ ∀ y, y ∈ ys ↔ Lead (W.inner kept1) kept1 (mOf W kept1 mm) y) (evp_call (eap_cons mono_eq (EvP.of (ev_var rfl)) (eap_cons mono_eq (EvP.of (ev_var rfl)) (eap_cons mono_L1 (evp_new (hmOf (Ex.refl _))) eap_nil))) ?_) ?_
        · rintro vs H11 e11 ⟨_, _, rfl, rfl, _, _, rfl, rfl, _, _, rfl, ⟨gp, rfl, hg⟩, rfl⟩ Q q E
          exact ⟨sp1, W.inner kept1, kk1, kept1, gp, mOf W kept1 mm, rfl, hsp1.mono e11, hW.inner kept1, by rw [Wd.inner_len]; exact hle, (hk9.mono e10).mono e11, I.tk.rise.nodup, by rw [Wd.inner_len]; exact hkn1, hg, fun v H12 e12 ⟨d, ys, h1, h0, h2, h3, h4⟩ => q v H12 e12 ⟨d, ys, h1, fresh_back e11 h0, h2, h3, h4⟩⟩
        rintro v H11 e11 ⟨nr, near, rfl, hnr0, hnr, hnrise, hnear⟩
        have hnrne : nr ≠ rw' := (ne_of_none (e10 _ _ hrv9) hnr0).symm
        have e911 := e10.trans e11
        -- far
        refine q_asgL (xs := (kept1.filter fun r => decide (r ∉ near)).map nv) (el_filt (g := nv) (e := nv) (fun r => decide (r ∉ near)) (evp_ref (ev_var rfl) (hk9.mono e911)) (by omega) (fun _ => rfl) (fun r H12 hr e12 => et_test (ev_niN (ev_var rfl) (ev_var rfl) (hnr.mono e12))) fun r H12 hr _ e12 => ev_var rfl) fun fr H12 _ e12 hfr => ?_
        have hfr : L1 nv H12 fr (kept1.filter fun r => decide (r ∉ near)) := hfr
        have e912 := e911.trans e12
        refine s_when (et_test (ev_gt (b := 0) (ev_lenL (ev_var rfl) hfr) ev_c)) (fun hc' H13 e13 => ?_) fun hc' H13 e13 => ?_
        · have hpos := of_decide_eq_true hc'
          have hfarne : (kept1.filter fun r => decide (r ∉ near)) ≠ [] := List.length_pos_iff.mp hpos
          have I' := I.take hr.2 hmm hnrise hnear hfarne
          have hlt' : near.length < kept1.length := by
            obtain ⟨r, hr2⟩ := List.exists_mem_of_ne_nil _ hfarne
            rw [List.mem_filter, decide_eq_true_eq] at hr2
            exact sub_lt hnrise.nodup (fun x hx => ((hnear x).mp hx).kept) hr2.1 hr2.2
          refine q_app_gen ((e912.trans e13) _ _ hrv9) (ev_var rfl) (eu_tup (ea2 (ev_var rfl) (ev_var rfl)) (by show 2 ≤ 100000; decide)) (by omega) fun p H14 e14 => ?_
          refine q_asg (ev_var rfl) fun H15 e15 => ?_
          refine s_asg ev_c fun H16 e16 => ?_
          have e1516 := e15.trans e16
          refine ⟨near, true, nr, rvs1 ++ [.ref p], _, _, _, _, rfl, (Ex.mut (((e19.trans e912).trans e13).trans e14) hrw).trans e1516, e1516 _ _ upd_same, by rw [List.length_append]; simp only [List.length_singleton]; omega, ?_, hnrne, by rw [htake]; exact I'⟩
          refine L1.mono e1516 ?_
          show upd _ _ _ _ = _
          rw [upd_ne hnrne]
          exact ((hnr.mono e12).mono e13).mono e14
        · have hnil : (kept1.filter fun r => decide (r ∉ near)) = [] := by
            have := of_decide_eq_false hc'
            exact List.length_eq_zero_iff.mp (by omega)
          exact ⟨kept1, more1, kk1, rvs1, _, _, _, _, rfl, (e19.trans e912).trans e13, (e912.trans e13) _ _ hrv9, hrl9, hk9.mono (e912.trans e13), hne9, by rw [htake]; exact I.skip hnear hnil⟩
      · rintro σ' H9 ⟨kept1, more1, kk1, rvs1, w6, w8, w9, w10, rfl, e19, hrv9, hrl9, hk9, hne9, I⟩
        rw [List.length_map, List.take_of_length_le (Nat.le_refl _)] at I
        have hmm : m = kept.length + 1 := hm'
        cases more1 with
        | true => exact ⟨kept1.length + 1, by have := I.lt rfl; omega, kept1, true, kk1, _, _, _, _, _, rvs1, rfl, e19, hrv9, hrl9, hk9, hne9, I.tk, fun z => (by cases z), rfl⟩
        | false => exact ⟨kept1.length, by have := I.le; omega, kept1, false, kk1, _, _, _, _, _, rvs1, rfl, e19, hrv9, hrl9, hk9, hne9, I.tk, fun _ => I.fair hr.2, rfl⟩
    have I0 := TkIn.start hr.2 T
    refine q_when (et_test (ev_gt (b := 0) (ev_lenL (ev_var rfl) hsk) ev_c)) (fun hc' H8 e8 => ?_) fun hc' H8 e8 => ?_
    · have hpos := of_decide_eq_true hc'
      have hstne : stuckOf W kept ≠ [] := List.length_pos_iff.mp hpos
      have hul := unstuck_lt hstne
      refine q_app_gen (e8 _ _ hrv7) (ev_var rfl) (eu_tup (ea2 (ev_var rfl) ev_c) (by show 2 ≤ 100000; decide)) (by omega) fun p H9 e9 => ?_
      have e89 := e8.trans e9
      have hk9 : L1 nv (upd H9 rw' (.lst (rvs ++ [.ref p]))) kk kept := by
        show upd _ _ _ _ = _
        rw [upd_ne hne]
        exact hk7.mono e89
      have hsk9 : L1 nv (upd H9 rw' (.lst (rvs ++ [.ref p]))) sk (stuckOf W kept) := by
        show upd _ _ _ _ = _
        rw [upd_ne hskne]
        exact hsk.mono e89
      refine q_asgL (xs := (unstuck W kept).map nv) (el_filt (g := nv) (e := nv) (fun r => decide (r ∉ stuckOf W kept)) (evp_ref (ev_var rfl) hk9) (by omega) (fun _ => rfl) (fun r H10 hr e10 => et_test (ev_niN (ev_var rfl) (ev_var rfl) (hsk9.mono e10))) fun r H10 hr _ e10 => ev_var rfl) fun kk1 H10 hkk1 e10 hk1 => ?_
      have hk1 : L1 nv H10 kk1 (unstuck W kept) := hk1
      refine s_asg ev_c fun H11 e11 => ?_
      rw [decide_eq_true hpos] at I0
      refine rest (unstuck W kept) true kk1 (rvs ++ [.ref p]) H11 ?_ (e11 _ _ (e10 _ _ upd_same)) (by rw [List.length_append]; simp only [List.length_singleton]; omega) (hk1.mono e11) (ne_of_none (H := upd H9 rw' (.lst (rvs ++ [.ref p]))) upd_same hkk1).symm I0
      exact ((Ex.mut ((e14.trans e57).trans e89) hrw).trans e10).trans e11
    · have hnil : stuckOf W kept = [] := by
        have := of_decide_eq_false hc'
        exact List.length_eq_zero_iff.mp (by omega)
      rw [unstuck_nil hnil, hnil] at I0
      exact rest kept false kk rvs H8 ((e14.trans e57).trans e8) (e8 _ _ hrv7) hrl2 (hk7.mono e8) hne I0
  · have e14 := e.trans e4
    refine s_retU (eu_tup (ea2 (ev_var rfl) (ev_var rfl)) (by show 2 ≤ 100000; decide)) fun d H5 _ e5 hd => ?_
    exact q _ H5 ((e1.trans e14).trans e5) ⟨d, .ref rw', kk, kept, rfl, hd, (hk.mono e4).mono e5, hend hmore⟩
end
end FH
namespace FH
open PySem PySem.Spec PyProof.Rows L2 Evl
section
variable {K : PySem.W.Frag}
theorem p_fair_rooms (vs : List V) (H : Hp) (Q : VK) (E : XK) (h : spFairRooms vs H Q E) : t_fair_rooms K spAskFair spTaken { nx := fun _ H' => Q .non H', rt := Q } (start N_fair_rooms vs) H := by
  obtain ⟨a, W, b, xs, c, ms, rfl, h, hW, hb, hr, hc, hm, q⟩ := h
  show tSeq _ _ _ [some (.ref a), some (.ref b), some (.ref c)] H
  refine q_drop (evc (ea3 (ev_var rfl) (ev_var rfl) (ev_var rfl)) fun H2 e2 Q q _ => ⟨a, W, b, xs, c, ms, rfl, h.mono e2, hW, hb.mono e2, hr, hc.mono e2, hm, q⟩) fun H1 e1 => ?_
  refine s_retP (Φ := fun v H' => ∃ k ys, v = .ref k ∧ L1 nv H' k ys ∧ FairRes W xs ms ys) (fun H2 e2 Q k => ?_) fun v H2 e2 hv => q v H2 (e1.trans e2) hv
  refine (evpc (Φ := fun v H' => ∃ d x k ys, v = .ref d ∧ H' d = some (.tup [x, .ref k]) ∧ L1 nv H' k ys ∧ FairRes W xs ms ys) (ea3 (ev_var rfl) (ev_var rfl) (ev_var rfl)) fun H3 e3 Q q _ => ⟨a, W, b, xs, c, ms, rfl, h.mono (e1.trans e3), hW, hb.mono (e1.trans e3), hr, hc.mono (e1.trans e3), hm, q⟩ : EvP (tCall spTaken [] E0 _) [some (.ref a), some (.ref b), some (.ref c)] H1 _) H2 e2 _ fun v H3 e3 ⟨d, x, kk, ys, hv, hd, hk, F⟩ => ?_
  exact ⟨d, _, 1, .ref kk, hv, rfl, st_of hd, at_of (j := 1) rfl rfl, k _ H3 e3 ⟨kk, ys, rfl, hk, F⟩⟩
/-- xs.extend(ys) -/
theorem x_ext {α : Type} {e : α → V} {σ : L2.St} {H : Hp} {l : Addr} {xs : List α} {ta te : TE} {Θ : List α → Prop} {N : Hp → Prop} (hl : L1 e H l xs) (ha : Ev ta σ H (.ref l)) (h : EvP te σ H (fun v H' => ∃ p ys, v = .ref p ∧ L1 e H' p ys ∧ Θ ys ∧ ys.length ≤ 1000)) (hz : xs.length ≤ 10000)
    (k : ∀ ys H1, Ex H H1 → Θ ys → N (upd H1 l (.lst ((xs ++ ys).map e)))) : (tBM K "list" rExtend ta (tCons te tNil)) σ H (fun _ H' => N H') := ha H (Ex.refl H) _ fun H1 e1 =>
  ⟨Or.inl ⟨rfl, _, sq_of (e1 _ _ hl)⟩, h H1 e1 _ fun v H2 e2 ⟨p, ys, hv, hp, hθ, hy⟩ => ⟨l, p, xs.map e, ys.map e, rfl, by rw [hv], (e1.trans e2) _ _ hl, hp, sz_of (by rw [List.length_map, List.length_map]; omega), by
    have := k ys H2 (e1.trans e2) hθ
    rw [List.map_append] at this
    exact this⟩⟩
theorem p_reach_of (vs : List V) (H : Hp) (Q : VK) (E : XK) (h : spReach vs H Q E) : t_reach_of K { nx := fun _ H' => Q .non H', rt := Q } (start N_reach_of vs) H := by
  obtain ⟨a, S, r, rfl, hS, G, hSl, hr, q⟩ := h
  show tSeq _ _ _ [some (.ref a), some (nv r), none, none, none] H
  refine q_asgL (el_lst (ea1 (ev_var rfl)) (by show 1 ≤ 100000; decide)) fun l H1 hl e1 hL => ?_
  have hL : L1 nv H1 l [r] := hL
  refine q_asg ev_c fun H2 e2 => ?_
  refine q_while (fun m σ' H' => ∃ (fs : List Nat) (k : Nat), σ' = [some (.ref a), some (nv r), some (.ref l), some (nv k), none] ∧ Ex H H' ∧ L1 nv H' l fs ∧ Ro S r fs k ∧ m = S.length - k) _ ⟨[r], 0, rfl, e1.trans e2, hL.mono e2, .start hr, rfl⟩ ?_
  rintro m σ' H' ⟨fs, k, rfl, e, hfs, R, hm⟩
  refine ⟨_, et_test (ev_lt (ev_var rfl) (ev_lenL (ev_var rfl) hfs)), fun hc H3 e3 => ⟨fun σ2 H2' => ∃ m', m' < m ∧ ∃ (fs : List Nat) (k : Nat), σ2 = [some (.ref a), some (nv r), some (.ref l), some (nv k), none] ∧ Ex H H2' ∧ L1 nv H2' l fs ∧ Ro S r fs k ∧ m' = S.length - k, fun σ2 H2 hN => hN, ?_⟩, fun hc H3 e3 => ?_⟩
  · have hk := of_decide_eq_true hc
    have hsz := R.size
    have hfs3 := hfs.mono e3
    obtain ⟨x, hx⟩ : ∃ x, fs[k]? = some x := ⟨fs[k], List.getElem?_eq_getElem hk⟩
    have hxm : x ∈ fs := List.mem_of_getElem? hx
    have hgl := G.len x
    have hcomp : EvL (tLc (iList K (tOp (rIxL K) (tVar 0) (tOp (rIxL K) (tVar 2) (tVar 3)))) (gName 4) (tTest (tOp (rIn K true) (tVar 4) (tVar 2))) (tVar 4) [4]) [some (.ref a), some (nv r), some (.ref l), some (nv k), none] H3 (((gs S x).filter fun t => decide (t ∉ fs)).map nv) :=
      el_filt (g := nv) (e := nv) (fun t => decide (t ∉ fs)) (evp_row (hS.mono (e.trans e3)) (ev_var rfl) (ev_ix (ev_var rfl) (ev_var rfl) hfs3 (by rw [List.getElem?_map, hx]; rfl)) (R.lt x hxm)) (by omega) (fun _ => rfl) (fun t H4 ht e4 => et_test (ev_niN (ev_var rfl) (ev_var rfl) (hfs3.mono e4))) fun t H4 ht _ e4 => ev_var rfl
    refine x_ext (N := fun H' => tAsg (tOp rPlus (tVar 3) (tC (.int 1))) (gName 3) _ _ H') hfs3 (ev_var rfl) (Θ := fun ys => ys = (gs S x).filter fun t => decide (t ∉ fs)) ((EvP.ofL hcomp).imp fun v H4 e4 ⟨p, hv, hp⟩ => ⟨p, _, hv, hp, rfl, ?_⟩) (by omega) ?_
    · have := List.length_filter_le (fun t => decide (t ∉ fs)) (gs S x)
      omega
    · rintro ys H4 e4 rfl
      refine s_asg (v := nv (k + 1)) (ev_plus (ev_var rfl) ev_c) fun H5 e5 => ?_
      refine ⟨S.length - (k + 1), by omega, fs ++ (gs S x).filter fun t => decide (t ∉ fs), k + 1, rfl, (Ex.mut ((e.trans e3).trans e4) hl).trans e5, ?_, R.next G hx, rfl⟩
      exact e5 _ _ upd_same
  · have hk : k = fs.length := by
      have := R.le
      have := of_decide_eq_false hc
      omega
    subst hk
    exact s_ret (ev_var rfl) fun H4 e4 => q _ H4 ((e.trans e3).trans e4) ⟨l, fs, rfl, (hfs.mono e3).mono e4, R.stop, by have := R.size; omega⟩
/-! ### the dict of seen rooms -/
def dkv (ks : List Nat) : List (Key × V) := ks.map fun (k : Nat) => ((Sum.inl (k : Int) : Key), V.bl true)
def DS (H : Hp) (a : Addr) (ks : List Nat) : Prop := H a = some (.dK (dkv ks))
theorem DS.mono {H H' : Hp} {a : Addr} {ks : List Nat} (x : Ex H H') (h : DS H a ks) : DS H' a ks := x _ _ h
theorem valV_ds (ks : List Nat) (x : Nat) : (valV (dkv ks) (Sum.inl (x : Int))).isSome = decide (x ∈ ks) := by
  rw [← valV_any, Bool.eq_iff_iff, List.any_eq_true, decide_eq_true_eq]
  constructor
  · rintro ⟨kv, hkv, h⟩
    obtain ⟨k, hk, rfl⟩ := List.mem_map.mp hkv
    have h := of_decide_eq_true h
    have h : (k : Int) = (x : Int) := Sum.inl.inj h
    have : k = x := by omega
    rw [← this]
    exact hk
  · intro h
    exact ⟨_, List.mem_map.mpr ⟨x, h, rfl⟩, decide_eq_true rfl⟩
theorem ev_dni {σ : L2.St} {H : Hp} {ta tb : TE} {a : Addr} {ks : List Nat} {x : Nat} (h : DS H a ks) (ha : Ev ta σ H (nv x)) (hb : Ev tb σ H (.ref a)) : Ev (tDNotIn ta tb) σ H (.bl (decide (x ∉ ks))) := fun H1 e Q q => ha H1 e _ fun H2 e2 => hb H2 (e.trans e2) _ fun H3 e3 =>
  ⟨a, _, rfl, DGet.k (k := Sum.inl (x : Int)) (((e.trans e2).trans e3) _ _ h), by
    rw [valV_ds]
    have : (!decide (x ∈ ks)) = decide (x ∉ ks) := (decide_not (p := x ∈ ks)).symm
    rw [this]
    exact q H3 (e2.trans e3)⟩
theorem x_dput {σ : L2.St} {D : Ends} {H : Hp} {td ty : TE} {a : Addr} {ks : List Nat} {x : Nat} (h : DS H a ks) (hd : Ev td σ H (.ref a)) (hy : Ev ty σ H (nv x)) (hx : x ∉ ks) (hz : ks.length ≤ 1000) (k : ∀ H1, Ex H H1 → DS (upd H1 a (.dK (dkv (ks ++ [x])))) a (ks ++ [x]) → D.nx σ (upd H1 a (.dK (dkv (ks ++ [x]))))) :
    sDPut td ty (tC (.bl true)) D σ H := hd H (Ex.refl H) _ fun H1 e1 => hy H1 e1 _ fun H2 e2 => ⟨a, _, rfl, DPut.k (k := Sum.inl (x : Int)) (v := V.bl true) ((e1.trans e2) _ _ h) (sz_lt (by unfold dkv; rw [List.length_map]; omega)), by
    have hn : valV (dkv ks) (Sum.inl (x : Int)) = none := by
      have := valV_ds ks x
      rw [decide_eq_false hx] at this
      cases e : valV (dkv ks) (Sum.inl (x : Int)) with
      | none => rfl
      | some v => rw [e] at this; cases this
    rw [putK_new _ hn]
    have hk := k H2 (e1.trans e2) upd_same
    have e3 : dkv (ks ++ [x]) = dkv ks ++ [((Sum.inl (x : Int) : Key), V.bl true)] := by
      unfold dkv
      rw [List.map_append]
      rfl
    rw [e3] at hk
    exact hk⟩
/-! ### the list of ways -/
theorem Gr.pop {e : Nat → V} {H0 H : Hp} {l : Addr} {xs : List Nat} {xss : List (List Nat)} (g : Gr e H0 H l (xs :: xss)) : ∃ (p : Addr) (ps : List Addr), H l = some (.lst ((p :: ps).map V.ref)) ∧ p ≠ l ∧ L1 e H p xs ∧ Gr e H0 (upd H l (.lst (ps.map V.ref))) l xss := by
  obtain ⟨h1, h2, ps, h3, h4, h5⟩ := g
  cases ps with
  | nil => simp at h4
  | cons p ps =>
    obtain ⟨k1, k2⟩ := h5 0 p xs rfl rfl
    refine ⟨p, ps, h3, k1, k2, h1, Ex.mut h2 h1, ps, upd_same, by simpa using h4, fun i q ys hi hy => ?_⟩
    obtain ⟨k3, k4⟩ := h5 (i + 1) q ys (by simpa using hi) (by simpa using hy)
    exact ⟨k3, by show upd _ _ _ _ = _; rw [upd_ne k3]; exact k4⟩
theorem Gr.other {e : Nat → V} {H0 H : Hp} {l s : Addr} {xss : List (List Nat)} {kvs kvs' : List (Key × V)} (g : Gr e H0 H l xss) (hs : H s = some (.dK kvs)) (h0 : H0 s = none) : Gr e H0 (upd H s (.dK kvs')) l xss := by
  obtain ⟨h1, h2, ps, h3, h4, h5⟩ := g
  have d : ∀ {q : Addr} {ys : List V}, H q = some (.lst ys) → q ≠ s := fun hq => ne_of hq hs (by intro z; cases z)
  refine ⟨h1, Ex.mut h2 h0, ps, by rw [upd_ne (d h3)]; exact h3, h4, fun i q ys hi hy => ?_⟩
  obtain ⟨k3, k4⟩ := h5 i q ys hi hy
  exact ⟨k3, by show upd _ _ _ _ = _; rw [upd_ne (d k4)]; exact k4⟩
/-- found = todo.pop(0) -/
theorem x_pop {e : Nat → V} {σ : L2.St} {D : Ends} {H0 H : Hp} {l : Addr} {xs : List Nat} {xss : List (List Nat)} {j : Nat} {ta : TE} (g : Gr e H0 H l (xs :: xss)) (ha : Ev ta σ H (.ref l)) (k : ∀ (p : Addr) (ps : List Addr) H1, Ex H H1 → p ≠ l → L1 e H1 p xs → Gr e H0 (upd H1 l (.lst (ps.map V.ref))) l xss → D.nx (σ.set j (some (.ref p))) (upd H1 l (.lst (ps.map V.ref)))) :
    tAsg (tBM K "list" rPopAt ta (tCons (tC (.int 0)) tNil)) (gName j) D σ H := ha H (Ex.refl H) _ fun H1 e1 => by
  obtain ⟨p, ps, h1, h2, h3, h4⟩ := (g.mono e1).pop
  refine ⟨Or.inl ⟨rfl, _, sq_of h1⟩, l, _, 0, 0, .ref p, rfl, rfl, h1, by decide, by decide, ?_, rfl, k p ps H1 e1 h2 h3 h4⟩
  unfold seqIndex?
  simp
/-- todo.append(a new list), the rest of the heap told -/
theorem s_gr2 {e : Nat → V} {σ : L2.St} {D : Ends} {H0 H : Hp} {l : Addr} {xss : List (List Nat)} {xs : List Nat} {ta te : TE} (g : Gr e H0 H l xss) (ha : Ev ta σ H (.ref l)) (h : EvL te σ H (xs.map e)) (hz : xss.length ≤ 1000) (k : ∀ (o : HO) H1, Ex H H1 → Gr e H0 (upd H1 l o) l (xss ++ [xs]) → D.nx σ (upd H1 l o)) :
    tDrop (tBM K "list" rAppend ta (tCons te tNil)) D σ H := by
  obtain ⟨vs, hv, hl⟩ := g.at
  exact s_appL hv ha h (by omega) fun p H1 hp e1 hx => k _ H1 e1 ((g.mono e1).add (ne_of_none hv hp).symm hx (e1 _ _ hv))
theorem ev_end {α : Type} {e : α → V} {σ : L2.St} {H : Hp} {ta : TE} {p : Addr} {xs : List α} {x : α} (ha : Ev ta σ H (.ref p)) (h : L1 e H p xs) (hx : xs.getLast? = some x) : Ev (tOp (rIxL K) ta (tUn (rU fun i => .int (-i)) (tC (.int 1)))) σ H (e x) := by
  have e1 : xs = xs.dropLast ++ [x] := by
    have hne : xs ≠ [] := fun z => by rw [z] at hx; cases hx
    have h1 := List.dropLast_concat_getLast hne
    rw [List.getLast?_eq_some_getLast hne] at hx
    rw [← Option.some.inj hx]
    exact h1.symm
  refine ev_op ha (ev_un ev_c ru_neg) (rv_ixL (sq_of h) ?_)
  rw [e1, List.map_append]
  exact atI_last _ _
theorem p_walk_to (vs : List V) (H : Hp) (Q : VK) (E : XK) (h : spWalkTo vs H Q E) : t_walk_to K { nx := fun _ H' => Q .non H', rt := Q } (start N_walk_to vs) H := by
  obtain ⟨a, S, r, b, goal, rfl, hS, G, hSl, hr, hb, hreach, q⟩ := h
  show tSeq _ _ _ [some (.ref a), some (nv r), some (.ref b), none, none, none, none] H
  have hrl := G.len r
  -- todo
  refine q_asgR (er_new (e := nv) (l := gs S r) (fun t o => o = .lst [nv t]) (evp_row hS (ev_var rfl) (ev_var rfl) hr) (by omega) (fun _ => rfl) fun t H1 ht e1 => EvO.ofL (el_lst (ea1 (ev_var rfl)) (by show 1 ≤ 100000; decide))) fun tl H1 htl e1 hT => ?_
  have g1 : Gr nv H H1 tl ((gs S r).map fun t => [t]) := by
    obtain ⟨ps, h1, h2, h3⟩ := hT
    refine ⟨htl, e1, ps, h1, by rw [List.length_map, h2], fun i p xs hi hx => ?_⟩
    rw [List.getElem?_map] at hx
    obtain ⟨t, ht, rfl⟩ := Option.map_eq_some_iff.mp hx
    obtain ⟨h4, o, h5, rfl⟩ := h3 i t p ht hi
    exact ⟨h4, h5⟩
  -- seen
  refine (fun sd hsd => ?_ : tSeq (tAsg tDNewK (gName 4)) _ _ _ H1)
  have hsd0 : H sd = none := fresh_back e1 hsd
  have g2 := g1.mono (Ex.new (o := .dK []) hsd)
  have d2 : DS (upd H1 sd (.dK [])) sd [] := upd_same
  generalize upd H1 sd (.dK []) = H2 at g2 d2
  obtain ⟨rp, hrp, hev⟩ := ev_row (K := K) (σ := [some (.ref a), some (nv r), some (.ref b), some (.ref tl), some (.ref sd), none, none]) (ta := tVar 0) (tb := tVar 1) (hS.mono g2.2.1) (ev_var rfl) (ev_var rfl) hr
  have hrp : L1 nv H2 rp (gs S r) := hrp
  have hrp0 : ∀ {H3 : Hp}, Ex H H3 → ∃ rp', L1 nv H3 rp' (gs S r) := fun e => by
    obtain ⟨_, p, _, _, h3⟩ := (hS.mono e).at hr
    exact ⟨p, h3⟩
  have hlt : r < S.length := hr
  -- the row itself, known ahead of all that is made here
  obtain ⟨as0, rp1, has0, hat0, hrow0⟩ := hS.at hr
  have hrow0 : L1 nv H rp1 (gs S r) := hrow0
  have hev1 : ∀ {H3 : Hp} {v5 v6 : Option V}, Ex H H3 → Ev (tOp (rIxL K) (tVar 0) (tVar 1)) [some (.ref a), some (nv r), some (.ref b), some (.ref tl), some (.ref sd), v5, v6] H3 (.ref rp1) := fun e => ev_ix (ev_var rfl) (ev_var rfl) (e _ _ has0) hat0
  refine q_forLn (hev1 g2.2.1) (sq_of (hrow0.mono g2.2.1)) (fun i σ' H' => ∃ v, σ' = [some (.ref a), some (nv r), some (.ref b), some (.ref tl), some (.ref sd), v, none] ∧ Gr nv H H' tl ((gs S r).map fun t => [t]) ∧ DS H' sd ((gs S r).take i)) (fun H3 e3 => ⟨_, rfl, g2.mono e3, d2.mono e3⟩) (fun i σ' H' _ ⟨v, _, g, _⟩ => sq_of (hrow0.mono g.2.1)) ?_ ?_
  · rintro i x σ' H3 hi ⟨v, rfl, g, d⟩
    rw [List.getElem?_map] at hi
    obtain ⟨t, ht, rfl⟩ := Option.map_eq_some_iff.mp hi
    have htk := take_succ' ht
    have hnd : t ∉ (gs S r).take i := fun hm => by
      have h1 := G.nd r
      have h2 := List.Nodup.sublist (List.take_sublist (i + 1) (gs S r)) h1
      rw [htk] at h2
      exact (List.nodup_append.mp h2).2.2 t hm t (by simp) rfl
    refine x_dput (x := t) d (ev_var rfl) (ev_var rfl) hnd (by rw [List.length_take]; omega) fun H4 e4 d4 => ⟨_, rfl, ((g.mono e4).other (e4 _ _ d) hsd0), by rw [htk]; exact d4⟩
  rintro σ' H3 ⟨v, rfl, g3, d3⟩
  rw [List.length_map, List.take_of_length_le (Nat.le_refl _)] at d3
  have B0 : Bf S r goal ((gs S r).map fun t => [t]) (gs S r) := .start G
  -- the first way
  obtain ⟨w0, ws0, hw0⟩ : ∃ w0 ws0, ((gs S r).map fun t => [t]) = w0 :: ws0 := by
    obtain ⟨t, ht, _⟩ := hreach
    cases hg : gs S r with
    | nil => rw [hg] at ht; cases ht
    | cons x xs => exact ⟨_, _, rfl⟩
  rw [hw0] at g3 B0
  refine x_pop (D := { nx := fun σ' H' => tSeq _ _ _ σ' H', rt := Q }) g3 (ev_var rfl) fun fa ps H4 e4 hfa hfw g4 => ?_
  have d4 : DS (upd H4 tl (.lst (ps.map V.ref))) sd (gs S r) := by
    have h1 : tl ≠ sd := by
      obtain ⟨vs, h1, _⟩ := g3.at
      exact ne_of h1 d3 (by intro z; cases z)
    show upd _ _ _ _ = _
    rw [upd_ne h1.symm]
    exact d3.mono e4
  have hf4 : L1 nv (upd H4 tl (.lst (ps.map V.ref))) fa w0 := by
    show upd _ _ _ _ = _
    rw [upd_ne hfa]
    exact hfw
  generalize upd H4 tl (.lst (ps.map V.ref)) = H5 at g4 d4 hf4
  -- the search
  refine q_while (fun m σ' H' => ∃ (found : List Nat) (todo : List (List Nat)) (ks : List Nat) (fa : Addr) (v5 : Option V), σ' = [some (.ref a), some (nv r), some (.ref b), some (.ref tl), some (.ref sd), v5, some (.ref fa)] ∧ L1 nv H' fa found ∧ fa ≠ tl ∧ Gr nv H H' tl todo ∧ DS H' sd ks ∧ Bf S r goal (found :: todo) ks ∧ m = (S.length - ks.length) + todo.length) _ ⟨w0, ws0, gs S r, fa, _, rfl, hf4, hfa, g4, d4, B0, rfl⟩ ?_
  rintro m σ' H6 ⟨found, todo, ks, fa, v5, rfl, hfd, hfne, g, d, B, hm⟩
  have hfpath := B.path found List.mem_cons_self
  obtain ⟨l, hl⟩ : ∃ l, found.getLast? = some l := ⟨found.getLast hfpath.1, List.getLast?_eq_some_getLast hfpath.1⟩
  have hbg := hb.mono g.2.1
  refine ⟨_, et_test (ev_niN (ev_end (ev_var rfl) hfd hl) (ev_var rfl) hbg), fun hc H7 e7 => ⟨fun σ2 H2' => ∃ m', m' < m ∧ ∃ (found : List Nat) (todo : List (List Nat)) (ks : List Nat) (fa : Addr) (v5 : Option V), σ2 = [some (.ref a), some (nv r), some (.ref b), some (.ref tl), some (.ref sd), v5, some (.ref fa)] ∧ L1 nv H2' fa found ∧ fa ≠ tl ∧ Gr nv H H2' tl todo ∧ DS H2' sd ks ∧ Bf S r goal (found :: todo) ks ∧ m' = (S.length - ks.length) + todo.length, fun σ2 H2 hN => hN, ?_⟩, fun hc H7 e7 => ?_⟩
  · have hlg := of_decide_eq_true hc
    have g7 := g.mono e7
    have d7 := d.mono e7
    have hf7 := hfd.mono e7
    have hlm : l ∈ found := List.mem_of_getLast? hl
    have hlS : l < S.length := by
      have : ∀ x ∈ found, x < S.length := fun x hx => by
        have := hfpath.2.rch x (List.mem_cons_of_mem _ hx)
        exact Rch.closed (P := fun k => k < S.length) (fun r t _ ht => G.lt r t ht) this hr
      exact this l hlm
    have hksz := B.size
    have hfsz := B.sz found List.mem_cons_self
    have hll := G.len l
    have htd : todo.length ≤ 1000 ∨ True := .inr trivial
    obtain ⟨as2, rp2, has2, hat2, hrow2⟩ := hS.at hlS
    have hrow2 : L1 nv H rp2 (gs S l) := hrow2
    have B' := B.next G hl hlg
    -- the steps from there
    refine q_forLn (ev_ix (ev_var rfl) (ev_end (ev_var rfl) hf7 hl) (g7.2.1 _ _ has2) hat2) (sq_of (hrow2.mono g7.2.1)) (fun i σ' H' => ∃ v, σ' = [some (.ref a), some (nv r), some (.ref b), some (.ref tl), some (.ref sd), v, some (.ref fa)] ∧ L1 nv H' fa found ∧ Gr nv H H' tl (todo ++ (((gs S l).take i).filter fun t => decide (t ∉ ks)).map fun t => found ++ [t]) ∧ DS H' sd (ks ++ ((gs S l).take i).filter fun t => decide (t ∉ ks)))
      (fun H8 e8 => ⟨_, rfl, hf7.mono e8, by simpa using g7.mono e8, by simpa using d7.mono e8⟩) (fun i σ' H' _ ⟨v, _, _, g, _⟩ => sq_of (hrow2.mono g.2.1)) ?_ ?_
    · rintro i x σ' H8 hi ⟨v, rfl, hf8, g8, d8⟩
      rw [List.getElem?_map] at hi
      obtain ⟨t, ht, rfl⟩ := Option.map_eq_some_iff.mp hi
      have htk := take_succ' ht
      have hnd : t ∉ (gs S l).take i := fun hm => by
        have h1 := G.nd l
        have h2 := List.Nodup.sublist (List.take_sublist (i + 1) (gs S l)) h1
        rw [htk] at h2
        exact (List.nodup_append.mp h2).2.2 t hm t (by simp) rfl
      have hiff : t ∉ ks ++ ((gs S l).take i).filter (fun t => decide (t ∉ ks)) ↔ t ∉ ks := by
        rw [List.mem_append]
        constructor
        · intro h1 h2
          exact h1 (.inl h2)
        · rintro h1 (h2 | h2)
          · exact h1 h2
          · exact hnd (List.mem_filter.mp h2).1
      have hfl : (((gs S l).take i).filter fun t => decide (t ∉ ks)).length ≤ 24 := by
        have h1 := List.length_filter_le (fun t => decide (t ∉ ks)) ((gs S l).take i)
        rw [List.length_take] at h1
        omega
      refine s_when (et_B (ev_dni d8 (ev_var rfl) (ev_var rfl))) (fun hc' H9 e9 => ?_) fun hc' H9 e9 => ?_
      · have hnk := of_decide_eq_true hc'
        have htk2 := hiff.mp hnk
        have hfnew : ((gs S l).take (i + 1)).filter (fun t => decide (t ∉ ks)) = ((gs S l).take i).filter (fun t => decide (t ∉ ks)) ++ [t] := by
          rw [htk, List.filter_append]
          simp [htk2]
        refine x_dput (D := { nx := fun σ' H' => tDrop _ _ σ' H', rt := Q, ct := _, bk := _ }) (x := t) (d8.mono e9) (ev_var rfl) (ev_var rfl) hnk (by rw [List.length_append]; omega) fun H10 e10 d10 => ?_
        have g10 : Gr nv H (upd H10 sd (.dK (dkv ((ks ++ ((gs S l).take i).filter fun t => decide (t ∉ ks)) ++ [t])))) tl _ := ((g8.mono e9).mono e10).other (e10 _ _ (e9 _ _ d8)) hsd0
        have hfsd : fa ≠ sd := ne_of (hf8.mono (e9.trans e10)) (e10 _ _ (e9 _ _ d8)) (by intro z; cases z)
        have hf10 : L1 nv (upd H10 sd (.dK (dkv ((ks ++ ((gs S l).take i).filter fun t => decide (t ∉ ks)) ++ [t])))) fa found := by
          show upd _ _ _ _ = _
          rw [upd_ne hfsd]
          exact hf8.mono (e9.trans e10)
        have hlen10 : todo.length ≤ S.length := by
          have := B.cnt
          rw [List.length_cons] at this
          omega
        generalize upd H10 sd (.dK (dkv ((ks ++ ((gs S l).take i).filter fun t => decide (t ∉ ks)) ++ [t]))) = H11 at d10 g10 hf10
        obtain ⟨vs11, hvs11, _⟩ := g10.at
        have htlsd : sd ≠ tl := ne_of d10 hvs11 (by intro z; cases z)
        refine s_gr2 (xs := found ++ [t]) g10 (ev_var rfl) (el_catPP (evp_ref (ev_var rfl) hf10) (evp_new (e := nv) (xs := [t]) (el_lst (ea1 (ev_var rfl)) (by show 1 ≤ 100000; decide))) (by show found.length + 1 ≤ 100000; omega)) (by rw [List.length_append, List.length_map]; omega) fun o H12 e12 g12 => ?_
        refine ⟨_, rfl, ?_, ?_, ?_⟩
        · show upd _ _ _ _ = _
          rw [upd_ne hfne]
          exact hf10.mono e12
        · rw [hfnew, List.map_append, ← List.append_assoc]
          exact g12
        · show upd _ _ _ _ = _
          rw [upd_ne htlsd, hfnew, ← List.append_assoc]
          exact d10.mono e12
      · have hik : t ∈ ks := by
          by_cases h1 : t ∈ ks
          · exact h1
          · exact absurd (hiff.mpr h1) (of_decide_eq_false hc')
        have hfnew : ((gs S l).take (i + 1)).filter (fun t => decide (t ∉ ks)) = ((gs S l).take i).filter (fun t => decide (t ∉ ks)) := by
          rw [htk, List.filter_append]
          simp [hik]
        exact ⟨_, rfl, hf8.mono e9, by rw [hfnew]; exact g8.mono e9, by rw [hfnew]; exact d8.mono e9⟩
    · rintro σ' H8 ⟨v, rfl, hf8, g8, d8⟩
      rw [List.length_map, List.take_of_length_le (Nat.le_refl _)] at g8 d8
      have g8 : Gr nv H H8 tl (todo ++ (bfNew S l ks).map fun t => found ++ [t]) := g8
      have d8 : DS H8 sd (ks ++ bfNew S l ks) := d8
      have hksz' := B'.size
      rw [List.length_append] at hksz'
      have hcnt := B.cnt
      generalize hT : todo ++ (bfNew S l ks).map (fun t => found ++ [t]) = T at g8 B'
      have hTl : T.length = todo.length + (bfNew S l ks).length := by rw [← hT, List.length_append, List.length_map]
      cases T with
      | nil => exact (B'.some hreach).elim
      | cons w1 ws1 =>
        refine x_pop g8 (ev_var rfl) fun fa' ps' H9 e9 hfa' hfw' g9 => ?_
        have htlsd : sd ≠ tl := by
          obtain ⟨vs, h1, _⟩ := g8.at
          exact ne_of d8 h1 (by intro z; cases z)
        refine ⟨(S.length - (ks ++ bfNew S l ks).length) + ws1.length, ?_, w1, ws1, ks ++ bfNew S l ks, fa', _, rfl, ?_, hfa', g9, ?_, B', rfl⟩
        · rw [hm, List.length_append]
          rw [List.length_cons] at hTl
          omega
        · show upd _ _ _ _ = _
          rw [upd_ne hfa']
          exact hfw'
        · show upd _ _ _ _ = _
          rw [upd_ne htlsd]
          exact d8.mono e9
  · have hlg : l ∈ goal := by simpa using hc
    refine s_ret (ev_var rfl) fun H8 e8 => q _ H8 ((g.2.1.trans e7).trans e8) ⟨fa, found, rfl, (hfd.mono e7).mono e8, ⟨hfpath.1, hfpath.2, l, hl, hlg⟩, ?_⟩
    have := B.sz found List.mem_cons_self
    have := B.size
    omega
end
end FH
namespace FH
open PySem PySem.Spec PyProof.Rows L2 Evl
section
variable {K : PySem.W.Frag}
theorem cut_from1 (xs : List V) : cutV xs (some 1) none = xs.drop 1 := by
  unfold cutV
  rw [show HT.sIx xs.length 0 (some 1) = min 1 xs.length from HT.sIx_nat xs.length 0 1, HT.sIx_none]
  cases xs with
  | nil => rfl
  | cons x r =>
    rw [show min 1 (x :: r).length = 1 by rw [List.length_cons]; omega]
    show List.take ((x :: r).length - 1) r = r
    rw [List.length_cons, Nat.add_sub_cancel]
    exact List.take_length
theorem cut_to1 (xs : List V) : cutV xs none (some 1) = xs.take 1 := by
  unfold cutV
  rw [show HT.sIx xs.length xs.length (some 1) = min 1 xs.length from HT.sIx_nat xs.length xs.length 1, HT.sIx_none]
  show List.take (min 1 xs.length - 0) (xs.drop 0) = _
  rw [List.drop_zero, Nat.sub_zero]
  cases xs with
  | nil => rfl
  | cons x r => rw [show min 1 (x :: r).length = 1 by rw [List.length_cons]; omega]
theorem cut_last (xs : List V) : cutV xs none (some (-1)) = xs.dropLast := by
  unfold cutV
  have : HT.sIx xs.length xs.length (some (-1)) = xs.length - 1 := by
    show (if (-1 : Int) < 0 then (-1 + (xs.length : Int)).toNat else min (-1 : Int).toNat xs.length) = _
    rw [if_pos (by decide)]
    omega
  rw [this, HT.sIx_none]
  show List.take (xs.length - 1 - 0) (xs.drop 0) = _
  rw [List.drop_zero, Nat.sub_zero, List.dropLast_eq_take]
theorem map_dropLast' {α : Type} {e : α → V} {xs : List α} : (xs.map e).dropLast = xs.dropLast.map e := by
  rw [List.dropLast_eq_take, List.dropLast_eq_take, List.length_map, List.map_take]
/-- for a, b in zip(xs, ys), the second list new, of the first one's length -/
theorem q_forZ {σ : L2.St} {H : Hp} {a : Addr} {xs ys : List V} {ta tb : TE} {g : TG} {tu tz : TS} {D : Ends} (h1 : Ev ta σ H (.ref a)) (ha : H a = some (.lst xs)) (h2 : EvL tb σ H ys) (hl : xs.length = ys.length) (Pv : Hp → Nat → L2.St → Hp → Prop) (h0 : ∀ H1, Ex H H1 → Pv H1 0 σ H1) (hP : ∀ Hb i σ' H', Pv Hb i σ' H' → Ex Hb H')
    (hs : ∀ (Hb : Hp) (i : Nat) (x y : V) (T : Addr) σ' H', xs[i]? = some x → ys[i]? = some y → Pv Hb i σ' H' → H' T = none → g (.ref T) σ' (upd H' T (.tup [x, y])) fun σ2 H2 => tu { D with nx := Pv Hb (i + 1), ct := Pv Hb (i + 1), bk := tz D } σ2 H2) (hd : ∀ Hb σ' H', Pv Hb xs.length σ' H' → tz D σ' H') : tSeq (tFor (iZip K (tCons ta (tCons tb tNil))) g tu) tz D σ H :=
  h1 H (Ex.refl H) _ fun H1 e1 => h2 H1 e1 _ fun d H2 _ e2 hd' => ⟨a, d, xs, ys, rfl, sq_of ((e1.trans e2) _ _ ha), sq_of hd', RZ.for_zipL (K := K) (a := a) (b := d) (D := { D with nx := tz D }) hl (Pv H2) (h0 H2 (e1.trans e2)) (fun i σ' H' p => ⟨sq_of (hP _ _ _ _ p _ _ ((e1.trans e2) _ _ ha)), sq_of (hP _ _ _ _ p _ _ hd')⟩) (hs H2) (hd H2)⟩
theorem p_is_way (vs : List V) (H : Hp) (Q : VK) (E : XK) (h : spIsWay vs H Q E) : t_is_way K spAskWorld { nx := fun _ H' => Q .non H', rt := Q } (start N_is_way vs) H := by
  obtain ⟨a, W, b, front, ring, rfl, h, hW, hwy, ok, q⟩ := h
  obtain ⟨f, r, hb, hf, hr, hfl, hrl⟩ := hwy
  show tSeq _ _ _ [some (.ref a), some (.ref b), none, none, none, none, none] H
  refine q_drop (evc (ea1 (ev_var rfl)) fun H2 e2 Q q _ => ⟨a, W, rfl, h.mono e2, hW, q⟩) fun H1 e1 => ?_
  refine q_asgT2 (Φ := fun v _ => v = .ref f) (Ψ := fun v _ => v = .ref r) ((EvP.of (ev_var rfl)).imp fun v H2 e2 hv => ⟨b, .ref f, .ref r, hv, (e1.trans e2) _ _ hb, rfl, rfl⟩) ?_
  rintro _ _ H2 e2 rfl rfl
  have e02 := e1.trans e2
  refine q_asgL (el_cat (ev_var rfl) (ev_var rfl) (hf.mono e02) (hr.mono e02) (by omega)) fun c H3 _ e3 hc => ?_
  have hc : L1 nv H3 c (front ++ ring) := hc
  have e03 := e02.trans e3
  have hx := h.mono e03
  have hlen : (front ++ ring).length ≤ 2000 := by rw [List.length_append]; omega
  have hrne : ring.length ≠ 0 := fun z => ok.ne (List.length_eq_zero_iff.mp z)
  refine q_ifF (b := decide (ring.length = 0) || !((front ++ ring).all fun x => decide (x < W.n))) ?_ (et_or (et_test (ev_eqN (ev_lenL (ev_var rfl) (hr.mono e03)) ev_c)) fun _ => et_not (et_B (ev_all (el_map (e := nv) (evp_ref (ev_var rfl) hc) (by omega) (fun _ => rfl) fun x H4 hx' e4 => ev_zlt (ev_var rfl) (ev_wn (hx.mono e4) (ev_var rfl)))))) fun H4 e4 => ?_
  · have h1 : ((front ++ ring).all fun x => decide (x < W.n)) = true := List.all_eq_true.mpr fun x hx => decide_eq_true (ok.lt x hx)
    rw [h1, decide_eq_false hrne]
    rfl
  have e04 := e03.trans e4
  have hc4 := hc.mono e4
  have hr4 := hr.mono e04
  -- rooms[1:] + ring[:1]
  have hys : EvL (tOp rCat (tSl (rSlL K) (tVar 4) (tPart (tC (.int 1))) tNoPart) (tSl (rSlL K) (tVar 3) tNoPart (tPart (tC (.int 1))))) [some (.ref a), some (.ref b), some (.ref f), some (.ref r), some (.ref c), none, none] H4 (((front ++ ring).drop 1 ++ ring.take 1).map nv) := by
    refine el_catPP (e := nv) (evp_new ?_) (evp_new ?_) (by rw [List.length_drop, List.length_take]; omega)
    · have := el_sl (K := K) (σ := [some (.ref a), some (.ref b), some (.ref f), some (.ref r), some (.ref c), none, none]) (te := tVar 4) (ev_var rfl) (eo_some (te := tC (.int 1)) ev_c) eo_none (sq_of hc4)
      rw [cut_from1, ← List.map_drop] at this
      exact this
    · have := el_sl (K := K) (σ := [some (.ref a), some (.ref b), some (.ref f), some (.ref r), some (.ref c), none, none]) (te := tVar 3) (ev_var rfl) eo_none (eo_some (te := tC (.int 1)) ev_c) (sq_of hr4)
      rw [cut_to1, ← List.map_take] at this
      exact this
  have hlz : ((front ++ ring).map nv).length = (((front ++ ring).drop 1 ++ ring.take 1).map nv).length := by
    rw [List.length_map, List.length_map, List.length_append, List.length_append, List.length_drop, List.length_append, List.length_take]
    omega
  refine q_forZ (ev_var rfl) hc4 hys hlz (fun Hb i σ' H' => Ex H4 Hb ∧ ∃ v5 v6, σ' = [some (.ref a), some (.ref b), some (.ref f), some (.ref r), some (.ref c), v5, v6] ∧ Ex Hb H') (fun H5 e5 => ⟨e5, _, _, rfl, Ex.refl _⟩) (fun Hb i σ' H' ⟨_, _, _, _, e⟩ => e) ?_ ?_
  · rintro H6 i x y T σ' H7 hx' hy' ⟨e46, v5, v6, rfl, e7⟩ hT
    rw [List.getElem?_map] at hx' hy'
    obtain ⟨x, hxi, rfl⟩ := Option.map_eq_some_iff.mp hx'
    obtain ⟨y, hyi, rfl⟩ := Option.map_eq_some_iff.mp hy'
    have e78 : Ex H7 (upd H7 T (.tup [nv x, nv y])) := Ex.new hT
    refine ⟨T, [nv x, nv y], rfl, st_of upd_same, rfl, nv x, [nv y], rfl, nv y, [], rfl, rfl, ?_⟩
    have hxn : x < W.n := ok.lt x (List.mem_of_getElem? hxi)
    have hmem := ok.ch i x y hxi hyi
    have e08 := (((e04.trans e46).trans e7).trans e78)
    obtain ⟨s, hs, hev⟩ := ev_wst (K := K) (σ := [some (.ref a), some (.ref b), some (.ref f), some (.ref r), some (.ref c), some (nv x), some (nv y)]) (ta := tVar 0) (tb := tVar 5) (h.mono e08) hW (ev_var rfl) (ev_var rfl) hxn
    exact s_ifF (b := decide (y ∉ W.st x)) (decide_eq_false fun z => z hmem) (et_test (ev_niN (ev_var rfl) hev hs)) fun H9 e9 => ⟨e46, _, _, rfl, (e7.trans e78).trans e9⟩
  · rintro H6 σ' H7 ⟨e46, v5, v6, rfl, e7⟩
    exact s_ret ev_c fun H8 e8 => q H8 (((e04.trans e46).trans e7).trans e8)
theorem p_ask_way (vs : List V) (H : Hp) (Q : VK) (E : XK) (h : spAskWay vs H Q E) : t_ask_way K spIsWay { nx := fun _ H' => Q .non H', rt := Q } (start N_ask_way vs) H := by
  obtain ⟨a, W, b, front, ring, rfl, h, hW, hwy, ok, q⟩ := h
  show tIfS _ _ _ _ [some (.ref a), some (.ref b)] H
  exact s_ifF (b := !true) rfl (et_not (et_B (evc (ea2 (ev_var rfl) (ev_var rfl)) fun H2 e2 Q q _ => ⟨a, W, b, front, ring, rfl, h.mono e2, hW, hwy.mono e2, ok, q⟩))) fun H1 e1 => q H1 e1
theorem p_way_is_fair (vs : List V) (H : Hp) (Q : VK) (E : XK) (h : spWayIsFair vs H Q E) : t_way_is_fair K spAskFair spAskWay { nx := fun _ H' => Q .non H', rt := Q } (start N_way_is_fair vs) H := by
  obtain ⟨a, W, b, xs, c, ms, d, front, ring, rfl, h, hW, hb, hr, hc, hm, hwy, F, q⟩ := h
  show tSeq _ _ _ [some (.ref a), some (.ref b), some (.ref c), some (.ref d), none, none] H
  refine q_drop (evc (ea3 (ev_var rfl) (ev_var rfl) (ev_var rfl)) fun H2 e2 Q q _ => ⟨a, W, b, xs, c, ms, rfl, h.mono e2, hW, hb.mono e2, hr, hc.mono e2, hm, q⟩) fun H1 e1 => ?_
  refine q_drop (evc (ea2 (ev_var rfl) (ev_var rfl)) fun H2 e2 Q q _ => ⟨a, W, d, front, ring, rfl, h.mono (e1.trans e2), hW, hwy.mono (e1.trans e2), F.ok, q⟩) fun H2 e2 => ?_
  have e02 := e1.trans e2
  obtain ⟨f, r, hd, hf, hg, hfl, hrl⟩ := hwy.mono e02
  have hml : ms.length ≤ 6 := hm.1.len hm.2
  refine q_ifF (b := !((front ++ ring).all fun x => decide (x ∈ xs))) ?_ (et_not (et_B (ev_all (el_map (e := nv) (evp_new (el_cat (ev_tix (ev_var rfl) hd (k := 0) rfl rfl) (ev_tix (ev_var rfl) hd (k := 1) rfl rfl) hf hg (by omega))) (by rw [List.length_append]; omega) (fun _ => rfl) fun x H3 hx e3 => ev_inN (ev_var rfl) (ev_var rfl) (hb.mono (e02.trans e3)))))) fun H3 e3 => ?_
  · rw [List.all_eq_true.mpr fun x hx => decide_eq_true (F.sub x hx)]
    rfl
  refine s_ret (v := .bl (ms.all fun m => decide (0 < (ring.filter fun x => decide (m ∈ W.mks x)).length))) (ev_all (el_map (e := sv) (evp_ref (ev_var rfl) (hc.mono (e02.trans e3))) (by omega) (fun _ => rfl) fun m H4 hm4 e4 => ev_gt (b := 0) (ev_lenNL (e := nv) (xs := ring.filter fun x => decide (m ∈ W.mks x)) (el_filt (g := nv) (e := nv) (fun x => decide (m ∈ W.mks x)) (evp_ref (ev_tix (ev_var rfl) ((e3.trans e4) _ _ hd) (k := 1) rfl rfl) (hg.mono (e3.trans e4))) (by omega) (fun _ => rfl) (fun x H5 hx e5 => ?_) fun x H5 hx _ e5 => ev_var rfl)) ev_c)) fun H4 e4 => ?_
  · have hxn := F.ok.lt x (List.mem_append_right _ hx)
    obtain ⟨s, hs, hev⟩ := ev_wmk (K := K) (σ := (wipe ((wipe [some (.ref a), some (.ref b), some (.ref c), some (.ref d), none, none] [5]).set 5 (some (sv m))) [4]).set 4 (some (nv x))) (ta := tVar 0) (tb := tVar 4) (h.mono (((e02.trans e3).trans e4).trans e5)) hW (ev_var rfl) (ev_var rfl) hxn
    exact et_test (ev_inS (ev_var rfl) hev hs)
  · have : (ms.all fun m => decide (0 < (ring.filter fun x => decide (m ∈ W.mks x)).length)) = true := List.all_eq_true.mpr fun m hm' => decide_eq_true (by
      obtain ⟨x, hx, hmx⟩ := F.mrk m hm'
      exact List.length_pos_of_mem (List.mem_filter.mpr ⟨hx, decide_eq_true hmx⟩))
    rw [this]
    exact q H4 ((e02.trans e3).trans e4)
end
end FH
namespace FH
open PySem PySem.Spec PyProof.Rows L2 Evl
section
variable {K : PySem.W.Frag}
theorem er_newE {α : Type} {e : α → V} {Θ : List α → Prop} {σ : L2.St} {H : Hp} {tl te : TE} {j : Nat} {vs : List Nat} (Φ : α → HO → Prop) (h : EvP tl σ H (fun v H' => ∃ a l, v = .ref a ∧ L1 e H' a l ∧ Θ l)) (hz : ∀ l, Θ l → l.length ≤ 40000) (hw : ∀ x, wipe ((wipe σ vs).set j (some x)) vs = wipe σ vs)
    (he : ∀ l x H1, Θ l → x ∈ l → Ex H H1 → EvO te ((wipe σ vs).set j (some (e x))) H1 (Φ x)) :
    EvR (tLc (iList K tl) (gName j) tYes te vs) σ H (fun q H' => ∃ l, Θ l ∧ ∃ ps : List Addr, H' q = some (.lst (ps.map V.ref)) ∧ ps.length = l.length ∧ ∀ (i : Nat) (x : α) (r : Addr), l[i]? = some x → ps[i]? = some r → r ≠ q ∧ ∃ o, H' r = some o ∧ Φ x o) := fun H0 e0 Q q => h H0 e0 _ fun v H1 e1 ⟨a, l, hv, ha, hΘ⟩ =>
  er_new (K := K) (tl := tC v) (σ := σ) (H := H1) (l := l) (e := e) (te := te) (j := j) (vs := vs) Φ (fun H2 e2 Q2 q2 => q2 v H2 (Ex.refl H2) ⟨a, hv, ha.mono e2⟩) (hz l hΘ) hw (fun x H2 hx e2 => he l x H2 hΘ hx ((e0.trans e1).trans e2)) H1 (Ex.refl H1) Q fun p H2 hp e2 hh => q p H2 (fresh_back e1 hp) (e1.trans e2) ⟨l, hΘ, hh⟩
theorem q_ext {α : Type} {e : α → V} {σ : L2.St} {H : Hp} {l : Addr} {xs : List α} {ta te : TE} {D : Ends} {tz : TS} {Θ : List α → Prop} (hl : L1 e H l xs) (ha : Ev ta σ H (.ref l)) (h : EvP te σ H (fun v H' => ∃ p ys, v = .ref p ∧ L1 e H' p ys ∧ Θ ys ∧ ys.length ≤ 1000)) (hz : xs.length ≤ 10000)
    (k : ∀ ys H1, Ex H H1 → Θ ys → tz D σ (upd H1 l (.lst ((xs ++ ys).map e)))) : tSeq (tDrop (tBM K "list" rExtend ta (tCons te tNil))) tz D σ H := x_ext (N := tz D σ) hl ha h hz k
/-- if c: .., the two ways joined -/
theorem q_split {σ : L2.St} {H : Hp} {t : TT} {tu tz : TS} {D : Ends} {b : Bool} (Mid : L2.St → Hp → Prop) (hT : EvT t σ H b) (k : ∀ σ' H', Mid σ' H' → tz D σ' H') (h1 : (∀ σ' H', Mid σ' H' → tz D σ' H') → b = true → ∀ H1, Ex H H1 → tu { D with nx := tz D } σ H1) (h2 : b = false → ∀ H1, Ex H H1 → Mid σ H1) : tSeq (tIfS t tu tNext) tz D σ H := q_when hT (h1 k) fun hb H1 e1 => k _ _ (h2 hb H1 e1)
theorem evp_butlast {σ : L2.St} {H : Hp} {te : TE} {Θ : List Nat → Prop} (h : EvP te σ H (fun v H' => ∃ c p, v = .ref c ∧ L1 nv H' c p ∧ Θ p)) : EvP (tSl (rSlL K) te tNoPart (tPart (tUn (rU fun i => .int (-i)) (tC (.int 1))))) σ H (fun v H' => ∃ c p, v = .ref c ∧ L1 nv H' c p.dropLast ∧ Θ p) := fun H1 e1 Q q =>
  h H1 e1 _ fun v H2 e2 ⟨c, p, hv, hc, hp⟩ => ⟨1, rfl, -1, rfl, by
    refine ⟨c, _, hv, sq_of hc, fun d hd => q _ _ (e2.trans (Ex.new hd)) ⟨d, p, rfl, ?_, hp⟩⟩
    show upd _ _ _ _ = _
    rw [upd_same, cut_last, map_dropLast']⟩
theorem evp_catP {σ : L2.St} {H : Hp} {ta tb : TE} {xs : List Nat} {Θ : List Nat → Prop} (ha : EvP ta σ H (fun v H' => ∃ p, v = .ref p ∧ L1 nv H' p xs)) (hb : EvP tb σ H (fun v H' => ∃ p ys, v = .ref p ∧ L1 nv H' p ys ∧ Θ ys)) (hz : ∀ ys, Θ ys → xs.length + ys.length ≤ 100000) : EvP (tOp rCat ta tb) σ H (fun v H' => ∃ p ys, v = .ref p ∧ L1 nv H' p (xs ++ ys) ∧ Θ ys) := fun H1 e1 Q k =>
  ha H1 e1 _ fun v1 H2 e2 ⟨p, hp, h1⟩ => hb H2 (e1.trans e2) _ fun v2 H3 e3 ⟨q, ys, hq, h2, h3⟩ => ⟨p, q, _, _, hp, hq, e3 _ _ h1, h2, sz_of (by rw [List.length_map, List.length_map]; exact hz ys h3), fun r hr =>
    k _ _ ((e2.trans e3).trans (Ex.new hr)) ⟨r, ys, rfl, by show upd _ _ _ _ = _; rw [upd_same, List.map_append], h3⟩⟩
theorem evp_minIx {σ : L2.St} {H : Hp} {te : TE} {Φ : V → Hp → Prop} {Ξ : Addr → Hp → Prop} (h : EvR te σ H Ξ) (k : ∀ p H1, Ex H H1 → Ξ p H1 → ∀ Q : VK, (∀ v H2, Ex H1 H2 → Φ v H2 → Q v H2) → rMinP K [.ref p] H1 (fun x H2 => rIxT K x (.int 1) H2 Q)) : EvP (tOp (rIxT K) (tCB (rMinP K) (tCons te tNil)) (tC (.int 1))) σ H Φ := fun H1 e Q q =>
  h H1 e _ fun p H2 _ e2 hp => k p H2 (e.trans e2) hp Q fun v H3 e3 hv => q v H3 (e2.trans e3) hv
/-- what fair_way's home is -/
def IsHome (S : List (List Nat)) (r h : Nat) : Prop := Rch S r h ∧ ∃ zs, IsReach S h zs ∧ ∀ o, Rch S r o → ∃ ws, IsReach S o ws ∧ zs.length ≤ ws.length
theorem ev_home {σ : L2.St} {H : Hp} {a : Addr} {S : List (List Nat)} {r j : Nat} {ts tr : TE} (hS : LL nv H a S) (G : GOk S) (hSl : S.length ≤ 24) (hr : r < S.length) (hs : Ev ts σ H (.ref a)) (hrr : Ev tr σ H (nv r)) (hw : ∀ x, wipe ((wipe σ [j]).set j (some x)) [j] = wipe σ [j])
    (hs2 : ∀ x H1, Ex H H1 → Ev ts ((wipe σ [j]).set j (some x)) H1 (.ref a)) (hj : ∀ x H1, Ev (tVar j) ((wipe σ [j]).set j (some x)) H1 x) :
    EvP (tOp (rIxT K) (tCB (rMinP K) (tCons (tLc (iList K (tCall spReach [] E0 (tCons ts (tCons tr tNil)))) (gName j) tYes (tTup (tCons (tCB (rLenS K) (tCons (tCall spReach [] E0 (tCons ts (tCons (tVar j) tNil))) tNil)) (tCons (tVar j) tNil))) [j]) tNil)) (tC (.int 1))) σ H (fun v _ => ∃ h, v = nv h ∧ IsHome S r h) := by
  have hlt : ∀ x, Rch S r x → x < S.length := fun x hx => Rch.closed (P := fun k => k < S.length) (fun r t _ ht => G.lt r t ht) hx hr
  have hcomp := er_newE (K := K) (σ := σ) (H := H) (e := nv) (j := j) (vs := [j]) (tl := tCall spReach [] E0 (tCons ts (tCons tr tNil))) (te := tTup (tCons (tCB (rLenS K) (tCons (tCall spReach [] E0 (tCons ts (tCons (tVar j) tNil))) tNil)) (tCons (tVar j) tNil)))
    (Θ := fun l => IsReach S r l ∧ l.length ≤ 24) (fun x o => ∃ zs, IsReach S x zs ∧ o = .tup [nv zs.length, nv x])
    (evpc (ea2 hs hrr) fun H2 e2 Q q _ => ⟨a, S, r, rfl, hS.mono e2, G, hSl, hr, fun v H3 e3 ⟨c, ys, h1, h2, h3, h4⟩ => q v H3 e3 ⟨c, ys, h1, h2, h3, h4⟩⟩) (fun l hl => by omega) hw (fun l x H1 hl hx e1 => by
      intro H2 e2 Q q
      refine (evpc (Φ := fun v H' => ∃ c ys, v = .ref c ∧ L1 nv H' c ys ∧ IsReach S x ys) (ea2 (hs2 (nv x) H1 e1) (hj (nv x) H1)) fun H3 e3 Q q _ => ⟨a, S, x, rfl, hS.mono (e1.trans e3), G, hSl, hlt x ((hl.1.mem x).mp hx), fun v H4 e4 ⟨c, ys, h1, h2, h3, h4⟩ => q v H4 e4 ⟨c, ys, h1, h2, h3⟩⟩ : EvP (tCall spReach [] E0 _) _ H1 _) H2 e2 _ fun v H3 e3 ⟨c, ys, hv, hc, hy⟩ => ?_
      refine ⟨c, _, by rw [hv], .inl (sq_of hc), ?_⟩
      refine hj (nv x) H3 H3 (Ex.refl _) _ fun H4 e4 => ⟨by show 2 ≤ sizeLine; decide, fun d hd => ?_⟩
      refine q d _ _ (fresh_back (e3.trans e4) hd) ((e3.trans e4).trans (Ex.new hd)) upd_same ⟨ys, hy, ?_⟩
      show HO.tup [V.int _, nv x] = HO.tup [V.int _, nv x]
      rw [List.length_map])
  refine evp_minIx hcomp fun c H2 e2 ⟨l, ⟨hl, hl24⟩, ps, hp1, hp2, hp3⟩ Q q => ?_
  have hex : ∀ i : Nat, ∃ c : Nat, ∀ x p, l[i]? = some x → ps[i]? = some p → H2 p = some (.tup [nv c, nv x]) ∧ ∃ zs, IsReach S x zs ∧ c = zs.length := fun i => by
    by_cases hi : i < l.length
    · have hx : l[i]? = some l[i] := List.getElem?_eq_getElem hi
      have hp : ps[i]? = some (ps[i]'(by omega)) := List.getElem?_eq_getElem _
      obtain ⟨_, o, h1, zs, h2, h3⟩ := hp3 i _ _ hx hp
      refine ⟨zs.length, fun x p hx' hp' => ?_⟩
      rw [hx] at hx'
      rw [hp] at hp'
      cases hx'
      cases hp'
      rw [h3] at h1
      exact ⟨h1, zs, h2, rfl⟩
    · exact ⟨0, fun x p hx => by rw [List.getElem?_eq_none (by omega)] at hx; cases hx⟩
  obtain ⟨f, hf⟩ := Classical.axiomOfChoice hex
  have hne : l ≠ [] := List.ne_nil_of_mem ((hl.mem r).mpr (.refl r))
  have hqlen : ((List.range l.length).map fun (i : Nat) => (((f i : Nat) : Int), ((l.getD i 0 : Nat) : Int))).length = l.length := by simp
  have hqat : ∀ (i x : Nat), l[i]? = some x → ((List.range l.length).map fun (i : Nat) => (((f i : Nat) : Int), ((l.getD i 0 : Nat) : Int)))[i]? = some (((f i : Nat) : Int), (x : Int)) := fun i x hx => by
    have hi := (List.getElem?_eq_some_iff.mp hx).1
    have hd : l.getD i 0 = x := by rw [List.getD_eq_getElem?_getD, hx]; rfl
    rw [List.getElem?_map, List.getElem?_range hi, ← hd]
    rfl
  generalize hqs : ((List.range l.length).map fun (i : Nat) => (((f i : Nat) : Int), ((l.getD i 0 : Nat) : Int))) = qs at hqlen hqat
  obtain ⟨q0, qr, rfl⟩ : ∃ q0 qr, qs = q0 :: qr := by
    cases qs with
    | nil =>
      have : l.length = 0 := hqlen.symm
      exact absurd (List.length_eq_zero_iff.mp this) hne
    | cons a b => exact ⟨a, b, rfl⟩
  refine ⟨c, ps, q0, qr, rfl, sq_of hp1, by rw [hqlen]; exact hp2, fun i t z ht hz => ?_, fun i t ht hz => ?_⟩
  · have hi : i < l.length := by
      have := (List.getElem?_eq_some_iff.mp ht).1
      omega
    have hx : l[i]? = some l[i] := List.getElem?_eq_getElem hi
    rw [hqat i _ hx] at hz
    cases hz
    exact st_of (hf i _ t hx ht).1
  · have hi : i < l.length := by
      have := (List.getElem?_eq_some_iff.mp ht).1
      omega
    have hx : l[i]? = some l[i] := List.getElem?_eq_getElem hi
    obtain ⟨h1, zs, h2, h3⟩ := hf i _ t hx ht
    have hmin : PySem.W.minOf q0 qr = (((f i : Nat) : Int), ((l[i] : Nat) : Int)) := by
      rw [hqat i _ hx] at hz
      exact (Option.some.inj hz).symm
    refine ⟨t, _, 1, nv l[i], rfl, rfl, st_of h1, at_of (j := 1) rfl rfl, q _ H2 (Ex.refl H2) ⟨l[i], rfl, (hl.mem _).mp (List.getElem_mem hi), zs, h2, fun o ho => ?_⟩⟩
    obtain ⟨k, hk⟩ := List.getElem?_of_mem ((hl.mem o).mpr ho)
    have hkl := (List.getElem?_eq_some_iff.mp hk).1
    have hkp : ps[k]? = some (ps[k]'(by omega)) := List.getElem?_eq_getElem _
    obtain ⟨_, ws, h4, h5⟩ := hf k _ _ hk hkp
    refine ⟨ws, h4, ?_⟩
    have hle := minOf_le qr (((f k : Nat) : Int), (o : Int)) (List.mem_of_getElem? (hqat k o hk))
    rw [hmin] at hle
    have hle : ((f i : Nat) : Int) ≤ ((f k : Nat) : Int) := hle
    omega
theorem p_fair_way (vs : List V) (H : Hp) (Q : VK) (E : XK) (h : spFairWay vs H Q E) : t_fair_way K spFairRooms spAskRoom spInner spWalkTo spReach { nx := fun _ H' => Q .non H', rt := Q } (start N_fair_way vs) H := by
  obtain ⟨a, W, b, xs, c, ms, r, rfl, h, hW, hb, hxs, hc, hm, ⟨Sg, hgood, hSr⟩, q⟩ := h
  show tSeq _ _ _ [some (.ref a), some (.ref b), some (.ref c), some (nv r), none, none, none, none, none, none, none] H
  have hrx := hgood.room r hSr
  have hrn := hxs.2 r hrx
  have hle := hW.le
  have hml : ms.length ≤ 6 := hm.1.len hm.2
  -- kept
  refine q_asgP (Φ := fun v H' => ∃ k ys, v = .ref k ∧ L1 nv H' k ys ∧ FairRes W xs ms ys) (evpc (ea3 (ev_var rfl) (ev_var rfl) (ev_var rfl)) fun H2 e2 Q q _ => ⟨a, W, b, xs, c, ms, rfl, h.mono e2, hW, hb.mono e2, hxs, hc.mono e2, hm, q⟩) ?_
  rintro v H1 e1 ⟨kp, ys, rfl, hk, F⟩
  have hry := F.max Sg hgood r hSr
  have hyn : ∀ y ∈ ys, y < W.n := fun y hy => hxs.2 y (F.sub y hy)
  have hyl : ys.length ≤ 24 := Nat.le_trans (F.rise.len hyn) hle
  refine q_drop (evc (ea2 (ev_var rfl) (ev_var rfl)) fun H2 e2 Q q _ => ⟨a, W, r, rfl, h.mono (e1.trans e2), hW, hrn, q⟩) fun H2 e2 => ?_
  have e02 := e1.trans e2
  refine q_ifF (b := decide (r ∉ ys)) (decide_eq_false fun z => z hry) (et_test (ev_niN (ev_var rfl) (ev_var rfl) (hk.mono e2))) fun H3 e3 => ?_
  have e03 := e02.trans e3
  have hk3 := (hk.mono e2).mono e3
  -- steps
  refine q_asgP (Φ := fun v H' => ∃ c, v = .ref c ∧ LL nv H' c (W.inner ys)) (evpc (ea2 (ev_var rfl) (ev_var rfl)) fun H4 e4 Q q _ => ⟨a, W, kp, ys, rfl, h.mono (e03.trans e4), hW, hk3.mono e4, q⟩) ?_
  rintro v H4 e4 ⟨sp, rfl, hsp⟩
  have e04 := e03.trans e4
  have hk4 := hk3.mono e4
  have G := hW.inner ys
  have hSl : (W.inner ys).length ≤ 24 := by rw [Wd.inner_len]; exact hle
  have hrS : r < (W.inner ys).length := by rw [Wd.inner_len]; exact hrn
  -- home
  refine q_asgP (ev_home (K := K) (j := 10) hsp G hSl hrS (ev_var rfl) (ev_var rfl) (fun _ => rfl) (fun x H1 _ => ev_var rfl) fun x H1 => ev_var rfl) ?_
  rintro v H5 e5 ⟨home, rfl, hrh, zs, hz, hmin⟩
  have hback : ∀ o, Rch (W.inner ys) home o → Rch (W.inner ys) o home := fun o ho => home_back hrh hz hmin ho
  have hhy : home ∈ ys := Rch.closed (P := fun k => k ∈ ys) (fun r t _ ht => (Wd.mem_inner.mp ht).2.2.2) hrh hry
  have e05 := e04.trans e5
  have hk5 := hk4.mono e5
  have hsp5 := hsp.mono e5
  -- front
  refine q_asgL (el_lst ea_nil (Nat.zero_le _)) fun ff0 H6 _ e6 hff0 => ?_
  have hff0 : L1 nv H6 ff0 [] := hff0
  have e06 := e05.trans e6
  have hk6 := hk5.mono e6
  have hsp6 := hsp5.mono e6
  refine q_split (b := decide (r ≠ home)) (fun σ' H' => Ex H6 H' ∧ ∃ front ff, σ' = [some (.ref a), some (.ref b), some (.ref c), some (nv r), some (.ref kp), some (.ref sp), some (nv home), some (.ref ff), none, none, none] ∧ L1 nv H' ff front ∧ IsCh (W.inner ys) (front ++ [home]) ∧ (∀ x ∈ front, x ∈ ys) ∧ front.length ≤ 100) (et_test (ev_neN (ev_var rfl) (ev_var rfl))) ?_ (fun k hd H7 e7 => ?_) fun hd H7 e7 => ?_
  · -- the ring
    rintro σ' H7 ⟨e67, front, ff, rfl, hff, hch, hfy, hfl⟩
    have e07 := e06.trans e67
    have hk7 := hk6.mono e67
    have hsp7 := hsp6.mono e67
    refine q_asgL (el_lst (ea1 (ev_var rfl)) (by show 1 ≤ 100000; decide)) fun rl H8 hrl0 e8 hrl => ?_
    have hrl : L1 nv H8 rl [home] := hrl
    refine q_forLn (ev_var rfl) (sq_of (hc.mono (e07.trans e8))) (fun i σ' H' => ∃ v9 ring, σ' = [some (.ref a), some (.ref b), some (.ref c), some (nv r), some (.ref kp), some (.ref sp), some (nv home), some (.ref ff), some (.ref rl), v9, none] ∧ Ex H7 H' ∧ L1 nv H' rl ring ∧ RingInv W ys home (ms.take i) ring ∧ ring.length ≤ 1 + 24 * i)
      (fun H9 e9 => ⟨_, [home], rfl, e8.trans e9, hrl.mono e9, .start hhy, by simp⟩) (fun i σ' H' _ ⟨_, _, _, e, _⟩ => sq_of (hc.mono (e07.trans e))) ?_ ?_
    · rintro i x σ' H9 hi ⟨v9, ring, rfl, e9, hring, R, hrlen⟩
      have hil : i < ms.length := by
        have := (List.getElem?_eq_some_iff.mp hi).1
        rwa [List.length_map] at this
      rw [List.getElem?_map] at hi
      obtain ⟨m, hmi, rfl⟩ := Option.map_eq_some_iff.mp hi
      have hmm : m ∈ ms := List.mem_of_getElem? hmi
      obtain ⟨l, hl, hlr, hhl⟩ := R.last
      have hly := R.mem l hlr
      have hlS : l < (W.inner ys).length := by rw [Wd.inner_len]; exact hyn l hly
      have e09 := e07.trans e9
      refine x_ext (Θ := fun p => IsWalk (W.inner ys) l (mOf W ys m) p ∧ p.length ≤ 24) hring (ev_var rfl) (evp_call (Φ := fun v H' => ∃ p pl, v = .ref p ∧ L1 nv H' p pl ∧ (IsWalk (W.inner ys) l (mOf W ys m) pl ∧ pl.length ≤ 24) ∧ pl.length ≤ 1000) (eap_cons mono_eq (EvP.of (ev_var rfl)) (eap_cons mono_eq (EvP.of (ev_end (ev_var rfl) hring hl)) (eap_cons mono_L1 (evp_new (el_filt (g := nv) (e := nv) (fun x => decide (m ∈ W.mks x)) (evp_ref (ev_var rfl) (hk7.mono e9)) (by omega) (fun _ => rfl) (fun x H10 hx e10 => ?_) fun x H10 hx _ e10 => ev_var rfl)) eap_nil))) ?_) (by omega) ?_
      · obtain ⟨s, hs, hev⟩ := ev_wmk (K := K) (σ := (wipe [some (.ref a), some (.ref b), some (.ref c), some (nv r), some (.ref kp), some (.ref sp), some (nv home), some (.ref ff), some (.ref rl), some (sv m), none] [10]).set 10 (some (nv x))) (ta := tVar 0) (tb := tVar 10) (h.mono (e09.trans e10)) hW (ev_var rfl) (ev_var rfl) (hyn x hx)
        exact et_test (ev_inS (ev_var rfl) hev hs)
      · rintro vs H10 e10 ⟨_, _, rfl, rfl, _, _, rfl, rfl, _, _, rfl, ⟨gp, rfl, hg⟩, rfl⟩ Q q E
        exact ⟨sp, W.inner ys, l, gp, mOf W ys m, rfl, (hsp7.mono e9).mono e10, G, hSl, hlS, hg, F.to_mark hxs.2 hmm hly, fun v H11 e11 ⟨c, p, h1, h2, h3, h4⟩ => q v H11 e11 ⟨c, p, h1, h2, ⟨h3, h4⟩, by omega⟩⟩
      · rintro p H10 e10 ⟨hw, hpl⟩
        refine ⟨_, ring ++ p, rfl, Ex.mut (e9.trans e10) hrl0, upd_same, ?_, by rw [List.length_append]; omega⟩
        rw [take_succ' hmi]
        exact R.next hl hw fun x hx => of_decide_eq_true (List.mem_filter.mp hx).2
    · rintro σ' H9 ⟨v9, ring, rfl, e9, hring, R, hrlen⟩
      rw [List.length_map] at hrlen
      rw [List.length_map, List.take_of_length_le (Nat.le_refl _)] at R
      obtain ⟨l, hl, hlr, hhl⟩ := R.last
      have hly := R.mem l hlr
      have hlS : l < (W.inner ys).length := by rw [Wd.inner_len]; exact hyn l hly
      have e09 := e07.trans e9
      -- home again
      refine q_ext (Θ := fun p => IsWalk (W.inner ys) l [home] p ∧ p.length ≤ 24) hring (ev_var rfl) (evp_call (Φ := fun v H' => ∃ p pl, v = .ref p ∧ L1 nv H' p pl ∧ (IsWalk (W.inner ys) l [home] pl ∧ pl.length ≤ 24) ∧ pl.length ≤ 1000) (eap_cons mono_eq (EvP.of (ev_var rfl)) (eap_cons mono_eq (EvP.of (ev_end (ev_var rfl) hring hl)) (eap_cons mono_L1 (evp_new (e := nv) (xs := [home]) (el_lst (ea1 (ev_var rfl)) (by show 1 ≤ 100000; decide))) eap_nil))) ?_) (by omega) ?_
      · rintro vs H10 e10 ⟨_, _, rfl, rfl, _, _, rfl, rfl, _, _, rfl, ⟨gp, rfl, hg⟩, rfl⟩ Q q E
        exact ⟨sp, W.inner ys, l, gp, [home], rfl, (hsp7.mono e9).mono e10, G, hSl, hlS, hg, F.to_home hxs.2 hback hhl hly, fun v H11 e11 ⟨c, p, h1, h2, h3, h4⟩ => q v H11 e11 ⟨c, p, h1, h2, ⟨h3, h4⟩, by omega⟩⟩
      · rintro p H10 e10 ⟨hw, hpl⟩
        have hFW := fair_way_ok (rooms := xs) hyn F.sub R hl hw hch hfy
        have e710 : Ex H7 (upd H10 rl (.lst ((ring ++ p).map nv))) := Ex.mut (e9.trans e10) hrl0
        have hff10 := hff.mono e710
        have hrl10 : L1 nv (upd H10 rl (.lst ((ring ++ p).map nv))) rl (ring ++ p) := upd_same
        generalize upd H10 rl (.lst ((ring ++ p).map nv)) = H11 at e710 hff10 hrl10
        refine s_retP (evp_tup (Ξ := fun vs H' => ∃ y, vs = [.ref ff, .ref y] ∧ L1 nv H' y (ring ++ p).dropLast) (fun vs H1 H2 x ⟨y, h1, h2⟩ => ⟨y, h1, h2.mono x⟩) (fun H12 e12 Q kk => eap_cons mono_eq (EvP.of (ev_var rfl)) (eap_cons (Φ := fun v H' => ∃ c p', v = .ref c ∧ L1 nv H' c (List.dropLast p') ∧ p' = ring ++ p) (fun v H1 H2 x ⟨c, p', h1, h2, h3⟩ => ⟨c, p', h1, L1.mono x h2, h3⟩) (evp_butlast ((evp_ref (ev_var rfl) hrl10).imp fun v H13 e13 ⟨c, h1, h2⟩ => ⟨c, _, h1, h2, rfl⟩)) eap_nil) H12 e12 Q fun vs H13 e13 hx => kk vs H13 e13 ?_) ?_) ?_
        · obtain ⟨_, _, rfl, rfl, _, _, rfl, ⟨y, p', rfl, h2, rfl⟩, rfl⟩ := hx
          exact ⟨y, rfl, h2⟩
        · rintro vs H' ⟨y, rfl, _⟩
          show 2 ≤ 100000
          decide
        · rintro v H12 e12 ⟨d, vs, rfl, hd, y, rfl, hy⟩
          refine q _ H12 ((e07.trans e710).trans e12) ⟨d, front, (ring ++ p).dropLast, rfl, ⟨ff, y, hd, hff10.mono e12, hy, by omega, ?_⟩, hFW⟩
          rw [List.length_dropLast, List.length_append]
          omega
  · -- a way to home
    have hne := of_decide_eq_true hd
    refine s_asgP (evp_catP (xs := [r]) (Θ := fun q => ∃ p, q = p.dropLast ∧ IsWalk (W.inner ys) r [home] p ∧ p.length ≤ 24) (evp_new (e := nv) (el_lst (ea1 (ev_var rfl)) (by show 1 ≤ 100000; decide))) ((evp_butlast (Θ := fun p => IsWalk (W.inner ys) r [home] p ∧ p.length ≤ 24) (evp_call (eap_cons mono_eq (EvP.of (ev_var rfl)) (eap_cons mono_eq (EvP.of (ev_var rfl)) (eap_cons mono_L1 (evp_new (e := nv) (xs := [home]) (el_lst (ea1 (ev_var rfl)) (by show 1 ≤ 100000; decide))) eap_nil))) ?_)).imp fun v H8 e8 ⟨c, p, h1, h2, h3⟩ => ⟨c, _, h1, h2, p, rfl, h3⟩) ?_) ?_
    · rintro vs H8 e8 ⟨_, _, rfl, rfl, _, _, rfl, rfl, _, _, rfl, ⟨gp, rfl, hg⟩, rfl⟩ Q q E
      exact ⟨sp, W.inner ys, r, gp, [home], rfl, (hsp6.mono e7).mono e8, G, hSl, hrS, hg, front_way hrh hne, q⟩
    · rintro z ⟨p, rfl, _, hp⟩
      rw [List.length_dropLast]
      show 1 + _ ≤ 100000
      omega
    · rintro v H8 e8 ⟨f2, z, rfl, hf2, p, rfl, hw, hp⟩
      obtain ⟨h1, h2⟩ := front_ok hry hw
      refine k _ _ ⟨e7.trans e8, r :: p.dropLast, f2, rfl, hf2, h1, h2, ?_⟩
      rw [List.length_cons, List.length_dropLast]
      omega
  · have heq : r = home := by
      by_cases e : r = home
      · exact e
      · exact absurd e (of_decide_eq_false hd)
    exact ⟨e7, [], ff0, rfl, hff0.mono e7, .one, fun x hx => (by cases hx), Nat.zero_le _⟩
end
end FH
namespace FH
open PySem PySem.Spec PyProof.Rows L2 Evl
section
variable {K : PySem.W.Frag}
theorem p_law_cell_at (vs : List V) (H : Hp) (Q : VK) (E : XK) (h : spCell K vs H Q E) : t_law_cell_at K { nx := fun _ H' => Q .non H', rt := Q } (start N_law_cell_at vs) H := by
  obtain ⟨a, ns, k, rfl, h, hl, q⟩ := h
  show tSeq _ _ _ [some (.ref a), some (nv k)] H
  refine q_when (b := decide (k < ns.length)) (et_test (ev_lt (ev_var rfl) (ev_is (ev_len (ev_var rfl) h) (by rw [List.length_map]; rfl)))) (fun hc H1 e1 => ?_) fun hc H1 e1 => ?_
  · have hk := of_decide_eq_true hc
    refine s_ret (ev_op (ev_var rfl) (ev_var rfl) (rv_ixL (ex_l e1 h) (at_of (j := k) (v := .int (ns.getD k 0)) rfl ?_))) fun H2 e2 => ?_
    · rw [List.getElem?_map, List.getElem?_eq_getElem hk, List.getD_eq_getElem?_getD, List.getElem?_eq_getElem hk]
      rfl
    · have := q H2 (e1.trans e2)
      unfold cellZ at this
      rw [if_pos hk] at this
      exact this
  · have hk := of_decide_eq_false hc
    refine s_ret ev_c fun H2 e2 => ?_
    have := q H2 (e1.trans e2)
    unfold cellZ at this
    rw [if_neg hk] at this
    exact this
theorem ev_z {σ : L2.St} {H : Hp} {ta tb : TE} {i j : Int} {g : Int → Int → V} {C : Int → Int → Prop} (ha : Ev ta σ H (.int i)) (hb : Ev tb σ H (.int j)) (hc : C i j) : Ev (tOp (rI C g) ta tb) σ H (g i j) := ev_op ha hb (rv_I hc)
theorem ev_z0 {σ : L2.St} {H : Hp} {ta tb : TE} {i j : Int} {g : Int → Int → V} (ha : Ev ta σ H (.int i)) (hb : Ev tb σ H (.int j)) : Ev (tOp (rI0 g) ta tb) σ H (g i j) := ev_op ha hb rv_I0
theorem p_law_draw (vs : List V) (H : Hp) (Q : VK) (E : XK) (h : spDraw vs H Q E) : t_law_draw K { nx := fun _ H' => Q .non H', rt := Q } (start N_law_draw vs) H := by
  obtain ⟨z, k, b, rfl, hk, hb1, hb2, q⟩ := h
  rw [nv_draw hb1] at q
  show tSeq _ _ _ [some (.int z), some (nv k), some (nv b), none, none, none] H
  have hb0 : (0 : Int) < (b : Int) := by omega
  refine q_when (b := decide ((10 : Int) ^ 18 ≤ z)) (et_test (ev_z0 (ev_var rfl) (ev_z ev_c ev_c ⟨by decide, by decide, by decide⟩))) (fun hc H1 e1 => ?_) fun hc H1 e1 => ?_
  · have hz := of_decide_eq_true hc
    refine q_asg (ev_var rfl) fun H2 e2 => ?_
    refine q_forR1 (n := (k : Int)) (ea1 (ev_var rfl)) ⟨by omega, by omega⟩ (fun i σ' H' => ∃ v, σ' = [some (.int z), some (nv k), some (nv b), some (.int (divs z b i)), v, none] ∧ Ex H H') (fun H3 e3 => ⟨_, rfl, (e1.trans e2).trans e3⟩) ?_ ?_
    · rintro i σ' H' hi ⟨v, rfl, e⟩
      exact s_asg (ev_z (ev_var rfl) (ev_var rfl) ⟨hb0, by omega⟩) fun H3 e3 => ⟨_, rfl, e.trans e3⟩
    · rintro σ' H' ⟨v, rfl, e⟩
      refine s_ret (ev_z (ev_var rfl) (ev_var rfl) hb0) fun H3 e3 => ?_
      have := q H3 (e.trans e3)
      unfold drawZ at this
      rw [if_pos hz] at this
      rw [show ((k : Int)).toNat = k by omega]
      exact this
  · have hz := of_decide_eq_false hc
    have h1 := Int.emod_nonneg z (show (1000000007 : Int) ≠ 0 by decide)
    have h2 := Int.emod_lt_of_pos z (show (0 : Int) < 1000000007 by decide)
    refine q_asg (ev_z (ev_z (ev_z0 (ev_z0 (ev_z (ev_var rfl) ev_c (by decide)) (ev_z ev_c (ev_var rfl) (.inl ⟨by decide, by decide⟩))) ev_c) ev_c (.inr ⟨by decide, by decide⟩)) ev_c (by decide)) fun H2 e2 => ?_
    generalize hs1 : (z % 1000000007 + 1009 * (k : Int) + 17) * 69621 % 2147483647 = s1
    have h3 : 0 ≤ s1 := by rw [← hs1]; exact Int.emod_nonneg _ (by decide)
    have h4 : s1 < 2147483647 := by rw [← hs1]; exact Int.emod_lt_of_pos _ (by decide)
    refine q_asg (ev_z (ev_z0 (ev_z0 (ev_z (ev_var rfl) (ev_var rfl) (.inl ⟨by omega, by omega⟩)) (ev_z ev_c (ev_var rfl) (.inl ⟨by decide, by decide⟩))) ev_c) ev_c (by decide)) fun H3 e3 => ?_
    refine s_ret (ev_z (ev_z (ev_z (ev_z (ev_var rfl) ev_c (.inr ⟨by decide, by decide⟩)) ev_c (by decide)) ev_c ⟨by decide, by decide⟩) (ev_var rfl) hb0) fun H4 e4 => ?_
    have := q H4 (((e1.trans e2).trans e3).trans e4)
    unfold drawZ at this
    rw [if_neg hz, hs1] at this
    exact this
theorem p_law_rooms (vs : List V) (H : Hp) (Q : VK) (E : XK) (h : spLawRooms vs H Q E) : t_law_rooms K spDraw { nx := fun _ H' => Q .non H', rt := Q } (start N_law_rooms vs) H := by
  obtain ⟨z, n, rfl, hn, q⟩ := h
  show tRet _ _ [some (.int z), some (nv n), none] H
  exact s_retL (el_filtR (g := nv) (fun r => decide (0 < drawN z r 3)) (ea1 (ev_var rfl)) (by omega) (fun _ => rfl) (fun r H1 hr e1 => et_test (ev_gt (b := 0) (evc (ea3 (ev_var rfl) (ev_var rfl) ev_c) fun H2 e2 Q q _ => ⟨z, r, 3, rfl, by omega, by omega, by omega, q⟩) ev_c)) fun r H1 hr _ e1 => ev_var rfl) fun p H1 _ e1 hp => q _ H1 e1 ⟨p, _, rfl, hp, List.pairwise_lt_range.filter _, fun x hx => List.mem_range.mp (List.mem_filter.mp hx).1⟩
/-! ### lists of lists beside other lists that grow -/
def Gx (e : Nat → V) (H : Hp) (l : Addr) (bad : List Addr) (xss : List (List Nat)) : Prop := ∃ ps : List Addr, H l = some (.lst (ps.map V.ref)) ∧ ps.length = xss.length ∧ ∀ (i : Nat) (p : Addr) (xs : List Nat), ps[i]? = some p → xss[i]? = some xs → p ∉ bad ∧ L1 e H p xs
theorem Gx.mono {e : Nat → V} {H H' : Hp} {l : Addr} {bad : List Addr} {xss : List (List Nat)} (x : Ex H H') (g : Gx e H l bad xss) : Gx e H' l bad xss := by
  obtain ⟨ps, h3, h4, h5⟩ := g
  exact ⟨ps, x _ _ h3, h4, fun i p xs hi hx => ⟨(h5 i p xs hi hx).1, (h5 i p xs hi hx).2.mono x⟩⟩
theorem Gx.upd {e : Nat → V} {H : Hp} {l l' : Addr} {bad : List Addr} {xss : List (List Nat)} {o : HO} (hb : l' ∈ bad) (hne : l ≠ l') (g : Gx e H l bad xss) : Gx e (upd H l' o) l bad xss := by
  obtain ⟨ps, h3, h4, h5⟩ := g
  refine ⟨ps, by rw [upd_ne hne]; exact h3, h4, fun i p xs hi hx => ?_⟩
  obtain ⟨h6, h7⟩ := h5 i p xs hi hx
  have : p ≠ l' := fun e => h6 (by rw [e]; exact hb)
  exact ⟨h6, by show L2.upd _ _ _ _ = _; rw [upd_ne this]; exact h7⟩
theorem Gx.add {e : Nat → V} {H : Hp} {l p : Addr} {bad : List Addr} {xss : List (List Nat)} {xs : List Nat} {vs : List V} (g : Gx e H l bad xss) (hl : l ∈ bad) (hp : p ∉ bad) (h : L1 e H p xs) (hv : H l = some (.lst vs)) : Gx e (L2.upd H l (.lst (vs ++ [.ref p]))) l bad (xss ++ [xs]) := by
  obtain ⟨ps, h3, h4, h5⟩ := g
  rw [h3] at hv
  cases hv
  have hpl : p ≠ l := fun e => hp (by rw [e]; exact hl)
  refine ⟨ps ++ [p], by rw [upd_same, List.map_append]; rfl, by rw [List.length_append, List.length_append, h4]; rfl, fun i q ys hi hy => ?_⟩
  by_cases hlt : i < ps.length
  · rw [List.getElem?_append_left hlt] at hi
    rw [List.getElem?_append_left (by omega)] at hy
    obtain ⟨a1, a2⟩ := h5 i q ys hi hy
    have : q ≠ l := fun e => a1 (by rw [e]; exact hl)
    exact ⟨a1, by show L2.upd _ _ _ _ = _; rw [upd_ne this]; exact a2⟩
  · rw [List.getElem?_append_right (by omega)] at hi hy
    have e1 : i - ps.length = 0 := by
      have := (List.getElem?_eq_some_iff.mp hi).1
      simp at this
      omega
    rw [e1] at hi
    rw [show i - xss.length = 0 by omega] at hy
    cases hi
    cases hy
    exact ⟨hp, by show L2.upd _ _ _ _ = _; rw [upd_ne hpl]; exact h⟩
theorem Gx.at {e : Nat → V} {H : Hp} {l : Addr} {bad : List Addr} {xss : List (List Nat)} (g : Gx e H l bad xss) : ∃ vs : List V, H l = some (.lst vs) ∧ vs.length = xss.length := by
  obtain ⟨ps, h3, h4, h5⟩ := g
  exact ⟨_, h3, by rw [List.length_map, h4]⟩
theorem Gx.ll {e : Nat → V} {H : Hp} {l : Addr} {bad : List Addr} {xss : List (List Nat)} (g : Gx e H l bad xss) : LL e H l xss := by
  obtain ⟨ps, h3, h4, h5⟩ := g
  exact ⟨ps, h3, h4, fun i p xs hi hx => (h5 i p xs hi hx).2⟩
/-- over a text's signs -/
theorem el_signs {σ : L2.St} {H : Hp} {tl te : TE} {t : TT} {j : Nat} {vs : List Nat} {z : Str} {ms : List Nat} (p : Nat → Bool) (h : Ev tl σ H (.str z)) (hz : z.cps.toList = ms.map (97 + ·)) (hl : ms.length ≤ 1000) (hw : ∀ x, wipe ((wipe σ vs).set j (some x)) vs = wipe σ vs)
    (ht : ∀ m H1, m ∈ ms → Ex H H1 → EvT t ((wipe σ vs).set j (some (sv m))) H1 (p m)) (he : ∀ m H1, m ∈ ms → p m = true → Ex H H1 → Ev te ((wipe σ vs).set j (some (sv m))) H1 (sv m)) :
    EvL (tLc (iStr tl) (gName j) t te vs) σ H ((ms.filter p).map sv) := fun H0 e0 Q q => h H0 e0 _ fun H1 e1 => ⟨z, rfl, fun Dl hD => by
  have hsz : z.cps.size = ms.length := by rw [← Array.length_toList, hz, List.length_map]
  refine ⟨fun i m H' => m = ms.length - i ∧ i ≤ ms.length ∧ H1 Dl = none ∧ Ex H1 H' ∧ H' Dl = some (.lst (((ms.take i).filter p).map sv)), ⟨ms.length, by simp, Nat.zero_le _, hD, Ex.new hD, upd_same⟩, ?_⟩
  rintro i m H' ⟨rfl, hi, p1, p2, p3⟩
  by_cases hlt : i < ms.length
  · refine .inr ⟨by show i < z.cps.size; omega, fun H' => i + 1 ≤ ms.length ∧ H1 Dl = none ∧ Ex H1 H' ∧ H' Dl = some (.lst (((ms.take (i + 1)).filter p).map sv)), fun H' hN => ⟨ms.length - (i + 1), by omega, rfl, hN⟩, fun x H'' hy => ?_⟩
    obtain ⟨rfl, c, hc, rfl⟩ := hy
    have hmi : ms[i]? = some ms[i] := List.getElem?_eq_getElem hlt
    have hcm : c = 97 + ms[i] := by
      rw [← Array.getElem?_toList, hz, List.getElem?_map, hmi] at hc
      exact (Option.some.inj hc).symm
    subst hcm
    have hm : ms[i] ∈ ms := List.getElem_mem hlt
    refine ⟨hw _, turn_V (x := ms[i]) (g := sv) p1 p2 p3 (by rw [List.length_take]; omega) (ht _ _ hm ((e0.trans e1).trans p2)) (fun hp => he _ _ hm hp ((e0.trans e1).trans p2)) fun H2 h1 h2 => ⟨hlt, p1, h1, ?_⟩⟩
    rw [take_succ' hmi]
    exact h2
  · have e : i = ms.length := by omega
    subst e
    refine .inl ⟨by show z.cps.size ≤ ms.length; omega, ?_⟩
    rw [List.take_of_length_le (Nat.le_refl _)] at p3
    exact q Dl H' (fresh_back e1 p1) (e1.trans p2) p3⟩
theorem canLay_ints : ∀ xs : List Int, PyData.canLayAll0 (xs.map PyData.int) = true
  | [] => rfl
  | x :: xs => by
    rw [List.map_cons, PyData.canLayAll0, canLay_ints xs]
    rfl
theorem dpAll_ints {H : Hp} : ∀ xs : List Nat, DpAll K H (xs.map nv) ((xs.map fun (n : Nat) => (n : Int)).map PyData.int)
  | [] => .nil
  | x :: xs => .cons (.int _) (dpAll_ints xs)
/-- row == [] -/
theorem ev_isNil {σ : L2.St} {H : Hp} {ta : TE} {a : Addr} {xs : List Nat} (ha : Ev ta σ H (.ref a)) (h : L1 nv H a xs) : Ev (tOp (rEqD K) ta (tLst tNil)) σ H (.bl (decide (xs = []))) := fun H1 e Q q => ha H1 e _ fun H2 e2 => ⟨Nat.zero_le _, fun p hp => by
  have hd1 : SeqAt.shaped (PyData.list ((xs.map fun (n : Nat) => (n : Int)).map PyData.int)) = true := by
    unfold SeqAt.shaped
    have h1 : (PyData.list ((xs.map fun (n : Nat) => (n : Int)).map PyData.int)).canLay0 = true := by
      rw [PyData.canLay0]
      exact canLay_ints _
    have h2 : (PyData.list ((xs.map fun (n : Nat) => (n : Int)).map PyData.int)).depth ≤ 1 := PySem.W.Datum.depth_le (α := List Int) (xs.map fun (n : Nat) => (n : Int))
    rw [h1, Bool.true_and, decide_eq_true_eq]
    omega
  have hnew : Ex H2 (upd H2 p (.lst [])) := Ex.new hp
  refine ⟨.list ((xs.map fun (n : Nat) => (n : Int)).map PyData.int), .list [], .lst (sq_of (hnew _ _ ((e.trans e2) _ _ h))) (dpAll_ints xs), .lst (sq_of upd_same) .nil, hd1, by decide +kernel, ?_⟩
  have heq : PyData.eqv (.list ((xs.map fun (n : Nat) => (n : Int)).map PyData.int)) (.list []) = decide (xs = []) := by
    have h1 : PyData.eqv (.list ((xs.map fun (n : Nat) => (n : Int)).map PyData.int)) (.list []) = decide ((xs.map fun (n : Nat) => (n : Int)) = []) := PySem.W.Datum.eqv (α := List Int) (xs.map fun (n : Nat) => (n : Int)) []
    rw [h1]
    exact decide_eq_decide.mpr List.map_eq_nil_iff
  rw [heq]
  exact q _ (e2.trans hnew)⟩
theorem occ_abc {m : Nat} (h : m < 3) : ∃ rest, Builtin.Str.occurrences ("abc" : Str) (sgn m) 0 ("abc" : Str).length 1 = m :: rest := by
  have : m = 0 ∨ m = 1 ∨ m = 2 := by omega
  rcases this with rfl | rfl | rfl <;> exact ⟨[], by decide +kernel⟩
end
end FH
namespace FH
open PySem PySem.Spec PyProof.Rows L2 Evl
section
variable {K : PySem.W.Frag}
theorem q_appP {σ : L2.St} {H : Hp} {D : Ends} {tz : TS} {l : Addr} {xs : List V} {ta te : TE} {Φ : V → Hp → Prop} (hl : H l = some (.lst xs)) (ha : Ev ta σ H (.ref l)) (h : EvR te σ H (fun p H' => Φ (.ref p) H')) (hz : xs.length < 100000) (k : ∀ p H1, H p = none → Ex H H1 → Φ (.ref p) H1 → tz D σ (upd H1 l (.lst (xs ++ [.ref p])))) :
    tSeq (tDrop (tBM K "list" rAppend ta (tCons te tNil))) tz D σ H := ha H (Ex.refl H) _ fun H1 e1 =>
  ⟨Or.inl ⟨rfl, xs, sq_of (e1 l _ hl)⟩, h H1 e1 _ fun p H2 hp e2 h2 => ⟨l, xs, .ref p, rfl, rfl, e2 l _ (e1 l _ hl), sz_lt hz, k p H2 (fresh_back e1 hp) (e1.trans e2) h2⟩⟩
/-- the world that the cells make: what is asked of its rows -/
structure Rowed (n : Nat) (own : List Nat) (marks steps : List (List Nat)) : Prop where
  lm : marks.length = own.length
  ls : steps.length = own.length
  ow : ∀ x ∈ own, x < 2
  mks : ∀ ms ∈ marks, Rising ms ∧ ∀ m ∈ ms, m < 6
  sts : ∀ ss ∈ steps, ss ≠ [] ∧ Rising ss ∧ ∀ t ∈ ss, t < n
theorem getD_mem {α : Type} {xs : List α} {i : Nat} {d : α} (h : i < xs.length) : xs.getD i d ∈ xs := by
  rw [List.getD_eq_getElem?_getD, List.getElem?_eq_getElem h]
  exact List.getElem_mem h
theorem Rowed.ok {n : Nat} {own : List Nat} {marks steps : List (List Nat)} (R : Rowed n own marks steps) (hn : own.length = n) (h1 : 1 ≤ n) (h2 : n ≤ 24) : (Wd.mk own marks steps).Ok := by
  refine ⟨by show 1 ≤ own.length; omega, by show own.length ≤ 24; omega, R.lm, R.ls, fun r hr => R.ow _ (getD_mem hr), fun r hr => ?_, fun r hr => ?_, fun r hr => ?_⟩
  · exact R.mks _ (getD_mem (by rw [R.lm]; exact hr))
  · exact (R.sts _ (getD_mem (by rw [R.ls]; exact hr))).1
  · have h3 := (R.sts _ (getD_mem (i := r) (d := []) (by rw [R.ls]; exact hr))).2
    exact ⟨h3.1, fun t ht => by show t < own.length; rw [hn]; exact h3.2 t ht⟩
theorem p_law_world (vs : List V) (H : Hp) (Q : VK) (E : XK) (h : spLawWorld K vs H Q E) : t_law_world K (spCell K) spDraw { nx := fun _ H' => Q .non H', rt := Q } (start N_law_world vs) H := by
  obtain ⟨a, ns, rfl, h, hl, q⟩ := h
  show tSeq _ _ _ [some (.ref a), some (nv 0), some (.int 6), none, none, none, none, none, none, none, none, none] H
  -- many
  have hc0 : 0 ≤ cellZ ns 0 % 6 ∧ cellZ ns 0 % 6 < 6 := ⟨Int.emod_nonneg _ (by decide), Int.emod_lt_of_pos _ (by decide)⟩
  obtain ⟨n, hn⟩ : ∃ n : Nat, 1 + cellZ ns 0 % 6 = (n : Int) := ⟨(1 + cellZ ns 0 % 6).toNat, by omega⟩
  have hn1 : 1 ≤ n := by omega
  have hn6 : n ≤ 6 := by omega
  refine q_asg (v := nv n) (ev_is (ev_z0 ev_c (ev_z (evc (ea2 (ev_var rfl) (ev_var rfl)) fun H2 e2 Q q _ => ⟨a, ns, 0, rfl, ex_l e2 h, hl, q⟩) (ev_var rfl) (by decide))) (congrArg V.int hn)) fun H1 e1 => ?_
  refine q_asgL (el_lst ea_nil (Nat.zero_le _)) fun ol H2 hol e2 hO => ?_
  refine q_asgL (el_lst ea_nil (Nat.zero_le _)) fun ml H3 hml e3 hM => ?_
  refine q_asgL (el_lst ea_nil (Nat.zero_le _)) fun sl H4 hsl e4 hS => ?_
  have n1 : ol ≠ ml := ne_of_none hO hml
  have n2 : ol ≠ sl := ne_of_none (e3 _ _ hO) hsl
  have n3 : ml ≠ sl := ne_of_none hM hsl
  have b1 : ol ∈ [ol, ml, sl] := by simp
  have b2 : ml ∈ [ol, ml, sl] := by simp
  have b3 : sl ∈ [ol, ml, sl] := by simp
  have f1 : H1 ol = none := hol
  have f2 : H1 ml = none := fresh_back e2 hml
  have f3 : H1 sl = none := fresh_back (e2.trans e3) hsl
  have nb : ∀ {p : Addr} {H' : Hp} {x y z : HO}, H' p = none → H' ol = some x → H' ml = some y → H' sl = some z → p ∉ [ol, ml, sl] := fun hp h1 h2 h3 hm => by
    simp only [List.mem_cons, List.not_mem_nil, or_false] at hm
    rcases hm with e | e | e
    · rw [e, h1] at hp; cases hp
    · rw [e, h2] at hp; cases hp
    · rw [e, h3] at hp; cases hp
  refine q_forR1 (n := (n : Int)) (ea1 (ev_var rfl)) ⟨by omega, by omega⟩ (fun i σ' H' => ∃ v7 v8 v9, σ' = [some (.ref a), some (nv 0), some (.int 6), some (nv n), some (.ref ol), some (.ref ml), some (.ref sl), v7, v8, v9, none, none] ∧ Ex H1 H' ∧ ∃ own marks steps, L1 nv H' ol own ∧ Gx sv H' ml [ol, ml, sl] marks ∧ Gx nv H' sl [ol, ml, sl] steps ∧ Rowed n own marks steps ∧ own.length = i)
    (fun H5 e5 => ⟨_, _, _, rfl, ((e2.trans e3).trans e4).trans e5, [], [], [], e5 _ _ (e4 _ _ (e3 _ _ hO)), ⟨[], e5 _ _ (e4 _ _ hM), rfl, fun i p xs hi => by simp at hi⟩, ⟨[], e5 _ _ hS, rfl, fun i p xs hi => by simp at hi⟩, ⟨rfl, rfl, fun x hx => (by cases hx), fun x hx => (by cases hx), fun x hx => (by cases hx)⟩, rfl⟩) ?_ ?_
  · rintro r σ' H5 hr ⟨v7, v8, v9, rfl, e5, own, marks, steps, hown, hmarks, hsteps, R, hlen⟩
    have hr : r < n := by omega
    have eS : ∀ {H' : Hp}, Ex H1 H' → SqL K H' a (ns.map V.int) := fun e => ex_l (e1.trans e) h
    have hz0 : nv (0 + 1 + r) = nv (1 + r) := by rw [Nat.zero_add]
    generalize hz : cellZ ns (1 + r) = z
    -- cell
    refine q_asg (v := .int z) (evc (ea2 (ev_var rfl) (ev_is (ev_plus (ev_plus (a := 0) (b := 1) (ev_var rfl) ev_c) (ev_var rfl)) hz0)) fun H6 e6 Q q _ => ⟨a, ns, 1 + r, rfl, eS (e5.trans e6), hl, by rw [hz]; exact q⟩) fun H6 e6 => ?_
    -- owners
    refine q_app (xs := own.map nv) (v := nv (drawN z 0 2)) (hown.mono e6) (ev_var rfl) (evc (ea3 (ev_var rfl) ev_c ev_c) fun H7 e7 Q q _ => ⟨z, 0, 2, rfl, by omega, by omega, by omega, q⟩) (by rw [List.length_map]; omega) fun H7 e7 => ?_
    have e57 := (e5.trans e6).trans e7
    have hown8 : L1 nv (upd H7 ol (.lst (own.map nv ++ [nv (drawN z 0 2)]))) ol (own ++ [drawN z 0 2]) := by
      show upd _ _ _ _ = _
      rw [upd_same, List.map_append]
      rfl
    have hmarks8 : Gx sv (upd H7 ol (.lst (own.map nv ++ [nv (drawN z 0 2)]))) ml [ol, ml, sl] marks := ((hmarks.mono e6).mono e7).upd b1 n1.symm
    have hsteps8 : Gx nv (upd H7 ol (.lst (own.map nv ++ [nv (drawN z 0 2)]))) sl [ol, ml, sl] steps := ((hsteps.mono e6).mono e7).upd b1 n2.symm
    have e8 : Ex H1 (upd H7 ol (.lst (own.map nv ++ [nv (drawN z 0 2)]))) := Ex.mut e57 f1
    generalize upd H7 ol (.lst (own.map nv ++ [nv (drawN z 0 2)])) = H8 at hown8 hmarks8 hsteps8 e8 ⊢
    -- marks
    obtain ⟨mvs, hmvs, hmvl⟩ := hmarks8.at
    obtain ⟨svs, hsvs, hsvl⟩ := hsteps8.at
    refine q_appP (Φ := fun v H' => ∃ p, v = .ref p ∧ L1 sv H' p ([0, 1, 2].filter fun m => decide (drawN z (1 + m) 2 = 1))) hmvs (ev_var rfl) (fun H9 e9 Q q => el_signs (ms := [0, 1, 2]) (z := "abc") (fun m => decide (drawN z (1 + m) 2 = 1)) ev_c (by decide +kernel) (by decide) (fun _ => rfl) (fun m H10 hm e10 => ?_) (fun m H10 hm _ e10 => ev_var rfl) H9 e9 Q fun p H10 hp e10 h10 => q p H10 hp e10 ⟨p, rfl, h10⟩) (by have := R.lm; omega) ?_
    · have hm3 : m < 3 := by
        simp only [List.mem_cons, List.not_mem_nil, or_false] at hm
        omega
      obtain ⟨rest, hocc⟩ := occ_abc hm3
      refine et_test (ev_eqN (b := 1) (evc (ea3 (ev_var rfl) (ev_plus (a := 1) (b := m) ev_c ?_) ev_c) fun H11 e11 Q q _ => ⟨z, 1 + m, 2, rfl, by omega, by omega, by omega, q⟩) ev_c)
      intro H11 e11 Q q
      refine ⟨rfl, ?_⟩
      exact (ea1 (ev_var rfl) : EvA (tCons (tVar 10) tNil) ((wipe _ [10]).set 10 (some (sv m))) H10 [sv m]) H11 e11 _ fun H12 e12 => ⟨"abc", sgn m, m, rest, rfl, rfl, hocc, q H12 e12⟩
    rintro mp H9 hmp e9 ⟨_, hmp', hmk⟩
    cases hmp'
    have hmpb : mp ∉ [ol, ml, sl] := nb hmp hown8 hmvs hsvs
    have hmarks10 := (hmarks8.mono e9).add b2 hmpb hmk (e9 _ _ hmvs)
    have hown10 : L1 nv (upd H9 ml (.lst (mvs ++ [.ref mp]))) ol (own ++ [drawN z 0 2]) := by
      show upd _ _ _ _ = _
      rw [upd_ne n1]
      exact hown8.mono e9
    have hsteps10 : Gx nv (upd H9 ml (.lst (mvs ++ [.ref mp]))) sl [ol, ml, sl] steps := (hsteps8.mono e9).upd b2 n3.symm
    have e10 : Ex H1 (upd H9 ml (.lst (mvs ++ [.ref mp]))) := Ex.mut (e8.trans e9) f2
    generalize upd H9 ml (.lst (mvs ++ [.ref mp])) = H10 at hmarks10 hown10 hsteps10 e10
    -- the row of steps
    have hbnd : 1 ≤ 2 + (if decide (3 < n) then 1 else 0) ∧ 2 + (if decide (3 < n) then 1 else 0) ≤ 100 := by
      split <;> omega
    refine q_asgL (xs := ((List.range n).filter fun t => decide (drawN z (4 + t) (2 + (if decide (3 < n) then 1 else 0)) = 1)).map nv) (el_filtR (g := nv) (fun t => decide (drawN z (4 + t) (2 + (if decide (3 < n) then 1 else 0)) = 1)) (ea1 (ev_var rfl)) (by omega) (fun _ => rfl) (fun t H11 ht e11 => et_test (ev_eqN (b := 1) (evc (ea3 (ev_var rfl) (ev_plus (a := 4) (b := t) ev_c (ev_var rfl)) (ev_plus (a := 2) (b := if decide (3 < n) then 1 else 0) ev_c (ev_cb (ea1 (ev_gt (a := n) (b := 3) (ev_var rfl) ev_c)) fun H12 e12 Q q => .inr ⟨_, rfl, ?_⟩))) fun H12 e12 Q q _ => ⟨z, 4 + t, _, rfl, by omega, hbnd.1, hbnd.2, q⟩) ev_c)) fun t H11 ht _ e11 => ev_var rfl) fun rp H11 hrp e11 hrow => ?_
    · have : V.int (if decide (3 < n) then 1 else 0) = nv (if decide (3 < n) then 1 else 0) := by split <;> rfl
      rw [this]
      exact q H12 (Ex.refl H12)
    have hrow : L1 nv H11 rp ((List.range n).filter fun t => decide (drawN z (4 + t) (2 + (if decide (3 < n) then 1 else 0)) = 1)) := hrow
    obtain ⟨mvs2, hmvs2, _⟩ := hmarks10.at
    obtain ⟨svs2, hsvs2, hsvl2⟩ := hsteps10.at
    have hrpb : rp ∉ [ol, ml, sl] := nb hrp hown10 hmvs2 hsvs2
    have hrise : Rising ((List.range n).filter fun t => decide (drawN z (4 + t) (2 + (if decide (3 < n) then 1 else 0)) = 1)) ∧ ∀ t ∈ (List.range n).filter fun t => decide (drawN z (4 + t) (2 + (if decide (3 < n) then 1 else 0)) = 1), t < n := ⟨List.pairwise_lt_range.filter _, fun t ht => List.mem_range.mp (List.mem_filter.mp ht).1⟩
    have e111 := e10.trans e11
    have hown11 := hown10.mono e11
    have hmarks11 := hmarks10.mono e11
    have hsteps11 := hsteps10.mono e11
    have hmarksR : ∀ ms ∈ marks ++ [[0, 1, 2].filter fun m => decide (drawN z (1 + m) 2 = 1)], Rising ms ∧ ∀ m ∈ ms, m < 6 := fun ms hms => by
      rcases List.mem_append.mp hms with hms | hms
      · exact R.mks ms hms
      · rw [List.mem_singleton.mp hms]
        refine ⟨List.Pairwise.filter _ (by decide), fun m hm => ?_⟩
        have := (List.mem_filter.mp hm).1
        simp only [List.mem_cons, List.not_mem_nil, or_false] at this
        omega
    have hownR : ∀ x ∈ own ++ [drawN z 0 2], x < 2 := fun x hx => by
      rcases List.mem_append.mp hx with hx | hx
      · exact R.ow x hx
      · rw [List.mem_singleton.mp hx]
        exact drawN_lt (by omega)
    -- the end of the turn: steps.append(row)
    refine q_split (b := decide (((List.range n).filter fun t => decide (drawN z (4 + t) (2 + (if decide (3 < n) then 1 else 0)) = 1)) = [])) (fun σ' H' => ∃ rp' row, σ' = [some (.ref a), some (nv 0), some (.int 6), some (nv n), some (.ref ol), some (.ref ml), some (.ref sl), some (nv r), some (.int z), some (.ref rp'), none, none] ∧ Ex H11 H' ∧ L1 nv H' rp' row ∧ rp' ∉ [ol, ml, sl] ∧ row ≠ [] ∧ Rising row ∧ ∀ t ∈ row, t < n) (et_test (ev_isNil (ev_var rfl) hrow)) ?_ (fun k hd H12 e12 => ?_) fun hd H12 e12 => ?_
    · rintro σ' H12 ⟨rp', row, rfl, e12, hrow', hrpb', hne', hri', hlt'⟩
      obtain ⟨svs3, hsvs3, hsvl3⟩ := (hsteps11.mono e12).at
      refine s_app (xs := svs3) (v := .ref rp') hsvs3 (ev_var rfl) (ev_var rfl) (by have := R.ls; omega) fun H13 e13 => ?_
      have e1213 := e12.trans e13
      refine ⟨_, _, _, rfl, Ex.mut (e111.trans e1213) f3, own ++ [drawN z 0 2], marks ++ [[0, 1, 2].filter fun m => decide (drawN z (1 + m) 2 = 1)], steps ++ [row], ?_, (hmarks11.mono e1213).upd b3 n3, ((hsteps11.mono e12).mono e13).add b3 hrpb' (hrow'.mono e13) (e13 _ _ hsvs3), ⟨?_, ?_, hownR, hmarksR, fun ss hss => ?_⟩, ?_⟩
      · show upd _ _ _ _ = _
        rw [upd_ne n2]
        exact hown11.mono e1213
      · rw [List.length_append, List.length_append, R.lm]
        rfl
      · rw [List.length_append, List.length_append, R.ls]
        rfl
      · rcases List.mem_append.mp hss with hss | hss
        · exact R.sts ss hss
        · rw [List.mem_singleton.mp hss]
          exact ⟨hne', hri', hlt'⟩
      · rw [List.length_append, hlen]
        rfl
    · refine s_asgL (el_lst (ea1 (v := nv (drawN z (4 + n) n)) (evc (ea3 (ev_var rfl) (ev_plus (a := 4) (b := n) ev_c (ev_var rfl)) (ev_var rfl)) fun H13 e13 Q q _ => ⟨z, 4 + n, n, rfl, by omega, hn1, by omega, q⟩)) (by show 1 ≤ 100000; decide)) fun rp2 H13 hrp2 e13 hr2 => ?_
      refine k _ _ ⟨rp2, [drawN z (4 + n) n], rfl, e12.trans e13, hr2, ?_, by simp, List.pairwise_singleton _ _, fun t ht => by rw [List.mem_singleton.mp ht]; exact drawN_lt hn1⟩
      have h12 := e11.trans e12
      exact nb hrp2 (h12 _ _ hown10) (h12 _ _ hmvs2) (h12 _ _ hsvs2)
    · exact ⟨rp, _, rfl, e12, hrow.mono e12, hrpb, of_decide_eq_false hd, hrise.1, hrise.2⟩
  · rintro σ' H5 ⟨v7, v8, v9, rfl, e5, own, marks, steps, hown, hmarks, hsteps, R, hlen⟩
    have hlen : own.length = n := by rw [hlen]; omega
    refine s_retU (eu_tup (ea3 (ev_var rfl) (ev_var rfl) (ev_var rfl)) (by show 3 ≤ 100000; decide)) fun d H6 _ e6 hd => ?_
    exact q _ H6 ((e1.trans e5).trans e6) ⟨d, ⟨own, marks, steps⟩, rfl, ⟨ol, ml, sl, hd, hown.mono e6, (hmarks.mono e6).ll, (hsteps.mono e6).ll⟩, R.ok hlen hn1 (by omega), by show own.length ≤ 6; omega⟩
end
end FH
namespace FH
open PySem PySem.Spec PyProof.Rows L2 Evl
section
variable {K : PySem.W.Frag}
theorem evp_niP {σ : L2.St} {H : Hp} {ta tb : TE} {k : Nat} (ha : Ev ta σ H (nv k)) (hb : EvP tb σ H (fun v H' => ∃ p xs, v = .ref p ∧ L1 nv H' p xs ∧ k ∈ xs)) : EvT (tTest (tOp (rIn K true) ta tb)) σ H false := et_test (EvP.ev fun H1 e Q q =>
  ha H1 e _ fun H2 e2 => hb H2 (e.trans e2) _ fun v H3 e3 ⟨p, xs, hv, hp, hk⟩ => ⟨p, _, hv, .inl (sq_of hp), rfl, flat_nv xs, by
    have : V.bl (if true = true then !inV (nv k) (xs.map nv) else inV (nv k) (xs.map nv)) = .bl false := by
      rw [inV_nv, decide_eq_true hk]
      rfl
    rw [this]
    exact q _ H3 (e2.trans e3) rfl⟩)
theorem evp_two {σ : L2.St} {H : Hp} {te : TE} {Θ : V → V → Hp → Prop} (m : ∀ x y H H', Ex H H' → Θ x y H → Θ x y H') (h : EvP te σ H (fun v H' => ∃ c x y z w, v = .ref c ∧ H' c = some (.tup [x, y, z, w]) ∧ Θ x y H')) :
    EvP (tSl (rSlT K) te tNoPart (tPart (tC (.int 2)))) σ H (fun v H' => ∃ p x y, v = .ref p ∧ H' p = some (.tup [x, y]) ∧ Θ x y H') := fun H1 e1 Q q =>
  h H1 e1 _ fun v H2 e2 ⟨c, x, y, z, w, hv, hc, ht⟩ => ⟨2, rfl, c, _, hv, st_of hc, fun hh => absurd hh.2 (by show ¬ (HT.sIx 4 4 (some 2) = 4); decide), fun d hd => q _ _ (e2.trans (Ex.new hd)) ⟨d, x, y, rfl, by
    show upd _ _ _ _ = _
    rw [upd_same]
    rfl, m x y _ _ (Ex.new hd) ht⟩⟩
theorem ev_notT {σ : L2.St} {H : Hp} {te : TE} (h : Ev te σ H (.bl true)) : EvT (tTest (tOp rNotB te (tC (.bl true)))) σ H false := et_test (ev_op h ev_c fun H1 _ Q q => ⟨true, true, rfl, rfl, q H1 (Ex.refl H1)⟩)
theorem mono_Lp {α : Type} {e : α → V} {xs : List α} : Mono (fun (v : V) H' => ∃ m, v = .ref m ∧ L1 e H' m xs) := fun v H H' x ⟨m, h1, h2⟩ => ⟨m, h1, h2.mono x⟩
theorem mono_way {W : Wd} {xs ms : List Nat} : Mono (fun (v : V) H' => ∃ d front ring, v = .ref d ∧ IsWy H' d front ring ∧ FairWay W xs ms front ring) := fun v H H' x ⟨d, f, r, h1, h2, h3⟩ => ⟨d, f, r, h1, h2.mono x, h3⟩
theorem evp_fw {σ : L2.St} {H : Hp} {th tr tm tk : TE} {hc rl : Addr} {W : Wd} {p r : Nat} {plan : List (Option Nat)} {rooms ms : List Nat} (hW : W.Ok) (P : PlanOk W p plan) (hh : IsW H hc (W.follow plan)) (hr : Rooms W rooms) (hrl : L1 nv H rl rooms) (hm : Marks ms)
    (G : ∃ S, Good (W.follow plan) rooms ms S ∧ S r) (e1 : Ev th σ H (.ref hc)) (e2 : Ev tr σ H (.ref rl)) (e3 : EvP tm σ H (fun v H' => ∃ m, v = .ref m ∧ L1 sv H' m ms)) (e4 : Ev tk σ H (nv r)) :
    EvP (tCall spFairWay [] E0 (tCons th (tCons tr (tCons tm (tCons tk tNil))))) σ H (fun v H' => ∃ d front ring, v = .ref d ∧ IsWy H' d front ring ∧ FairWay W rooms ms front ring) :=
  evp_call (eap_cons mono_eq (EvP.of e1) (eap_cons mono_eq (EvP.of e2) (eap_cons mono_Lp e3 (eap_cons mono_eq (EvP.of e4) eap_nil)))) (by
    rintro _ H2 e ⟨_, _, rfl, rfl, _, _, rfl, rfl, _, _, rfl, ⟨m, rfl, hms⟩, _, _, rfl, rfl, rfl⟩ Q q E
    exact ⟨hc, W.follow plan, rl, rooms, m, ms, r, rfl, hh.mono e, hW.follow P, hrl.mono e, hr, hms, hm, G, fun v H3 e3 ⟨d, front, ring, h1, h2, h3⟩ => q v H3 e3 ⟨d, front, ring, h1, h2, @FairWay.back W p [] rooms ms front ring plan P h3⟩⟩)
theorem ev_wif {σ : L2.St} {H : Hp} {tw tr tm tk : TE} {c rl : Addr} {W : Wd} {rooms ms : List Nat} (hW : W.Ok) (hw : IsW H c W) (hr : Rooms W rooms) (hrl : L1 nv H rl rooms) (hm : Marks ms)
    (e1 : Ev tw σ H (.ref c)) (e2 : Ev tr σ H (.ref rl)) (e3 : EvP tm σ H (fun v H' => ∃ m, v = .ref m ∧ L1 sv H' m ms)) (e4 : EvP tk σ H (fun v H' => ∃ d front ring, v = .ref d ∧ IsWy H' d front ring ∧ FairWay W rooms ms front ring)) :
    Ev (tCall spWayIsFair [] E0 (tCons tw (tCons tr (tCons tm (tCons tk tNil))))) σ H (.bl true) :=
  EvP.ev (evp_call (eap_cons mono_eq (EvP.of e1) (eap_cons mono_eq (EvP.of e2) (eap_cons mono_Lp e3 (eap_cons mono_way e4 eap_nil)))) (by
    rintro _ H2 e ⟨_, _, rfl, rfl, _, _, rfl, rfl, _, _, rfl, ⟨m, rfl, hms⟩, _, _, rfl, ⟨d, front, ring, rfl, hwy, hf⟩, rfl⟩ Q q E
    exact ⟨c, W, rl, rooms, m, ms, d, front, ring, rfl, hw.mono e, hW, hrl.mono e, hr, hms, hm, hwy, hf, fun H3 e3 => q _ H3 e3 rfl⟩))
theorem evp_fr {σ : L2.St} {H : Hp} {tw tr tm : TE} {c rl : Addr} {W : Wd} {rooms ms : List Nat} (hW : W.Ok) (hw : IsW H c W) (hr : Rooms W rooms) (hrl : L1 nv H rl rooms) (hm : Marks ms)
    (e1 : Ev tw σ H (.ref c)) (e2 : Ev tr σ H (.ref rl)) (e3 : EvP tm σ H (fun v H' => ∃ m, v = .ref m ∧ L1 sv H' m ms)) :
    EvP (tCall spFairRooms [] E0 (tCons tw (tCons tr (tCons tm tNil)))) σ H (fun v H' => ∃ k ys, v = .ref k ∧ L1 nv H' k ys ∧ FairRes W rooms ms ys) :=
  evp_call (eap_cons mono_eq (EvP.of e1) (eap_cons mono_eq (EvP.of e2) (eap_cons mono_Lp e3 eap_nil))) (by
    rintro _ H2 e ⟨_, _, rfl, rfl, _, _, rfl, rfl, _, _, rfl, ⟨m, rfl, hms⟩, rfl⟩ Q q E
    exact ⟨c, W, rl, rooms, m, ms, rfl, hw.mono e, hW, hrl.mono e, hr, hms, hm, fun v H3 e3 h => q v H3 e3 h⟩)
theorem abc_at {m : Nat} (h : m < 3) : ∃ c, atI ("abc" : Str).cps.toList (m : Int) = some c ∧ sv m = .str ⟨#[c]⟩ := match m, h with
  | 0, _ => ⟨97, by decide +kernel, rfl⟩
  | 1, _ => ⟨98, by decide +kernel, rfl⟩
  | 2, _ => ⟨99, by decide +kernel, rfl⟩
theorem p_law (vs : List V) (H : Hp) (Q : VK) (E : XK) (h : spLaw K vs H Q E) : t_law K (spLawWorld K) spDraw spLawRooms spFollow spFairRooms (spCell K) spKeep spAgain spWayIsFair spMarked spFairWay { nx := fun _ H' => Q .non H', rt := Q } (start N_law vs) H := by
  obtain ⟨a, ns, rfl, h, hl, q⟩ := h
  show tSeq _ _ _ [some (.ref a), none, none, none, none, none, none, none, none, none, none, none, none, none] H
  have cell : ∀ {σ : L2.St} {H1 : Hp} {ta : TE} (k : Nat), Ex H H1 → Ev ta σ H1 (.ref a) → Ev (tCall (spCell K) [] E0 (tCons ta (tCons (tC (nv k)) tNil))) σ H1 (.int (cellZ ns k)) := fun k e1 ha =>
    evc (ea2 ha ev_c) fun H2 e2 Q q _ => ⟨a, ns, k, rfl, ex_l (e1.trans e2) h, hl, q⟩
  -- the world
  refine q_asgP (Φ := fun v H' => ∃ c W, v = .ref c ∧ IsW H' c W ∧ W.Ok ∧ W.n ≤ 6) (evpc (ea3 (ev_var rfl) ev_c ev_c) fun H2 e2 Q q _ => ⟨a, ns, rfl, ex_l e2 h, hl, q⟩) ?_
  rintro _ H1 e1 ⟨c, W, rfl, hw1, hW, h6⟩
  refine q_asg (ev_wn hw1 (ev_var rfl)) fun H2 e2 => ?_
  refine q_asgL (el_listRg (ev_var rfl) (by omega)) fun el H3 _ e3 hev => ?_
  have hev : L1 nv H3 el (List.range W.n) := hev
  have hE : Rooms W (List.range W.n) := ⟨List.pairwise_lt_range, fun x hx => List.mem_range.mp hx⟩
  have e03 := (e1.trans e2).trans e3
  have hw3 := (hw1.mono e2).mono e3
  -- the player
  refine q_asg (v := nv (drawN (cellZ ns 8) 0 2)) (evc (ea3 (cell 8 e03 (ev_var rfl)) ev_c ev_c) fun H5 e5 Q q _ => ⟨cellZ ns 8, 0, 2, rfl, by omega, by omega, by omega, q⟩) fun H4 e4 => ?_
  have hp : drawN (cellZ ns 8) 0 2 < 2 := drawN_lt (by omega)
  generalize drawN (cellZ ns 8) 0 2 = p at hp ⊢
  -- the mark
  have hm3 : drawN (cellZ ns 8) 1 3 < 3 := drawN_lt (by omega)
  obtain ⟨cc, hcc, hsv⟩ := abc_at hm3
  refine q_asg (v := sv (drawN (cellZ ns 8) 1 3)) (ev_is (ev_op ev_c (evc (v := nv (drawN (cellZ ns 8) 1 3)) (ea3 (cell 8 (e03.trans e4) (ev_var rfl)) ev_c ev_c) fun H5 e5 Q q _ => ⟨cellZ ns 8, 1, 3, rfl, by omega, by omega, by omega, q⟩) (rv_ixS (by decide +kernel) hcc)) hsv.symm) fun H5 e5 => ?_
  generalize drawN (cellZ ns 8) 1 3 = m at hm3 ⊢
  have hM : Marks [m] := ⟨List.pairwise_singleton _ _, fun x hx => by rw [List.mem_singleton.mp hx]; omega⟩
  have hM0 : Marks [] := ⟨List.Pairwise.nil, fun x hx => by cases hx⟩
  -- the rooms
  have e05 := (e03.trans e4).trans e5
  refine q_asgP (Φ := fun v H' => ∃ c xs, v = .ref c ∧ L1 nv H' c xs ∧ Rising xs ∧ ∀ x ∈ xs, x < W.n) (evpc (ea2 (cell 7 e05 (ev_var rfl)) (ev_var rfl)) fun H2 e2 Q q _ => ⟨cellZ ns 7, W.n, rfl, by omega, q⟩) ?_
  rintro _ H6 e6 ⟨rl, rooms, rfl, hrl, hr1, hr2⟩
  have hr : Rooms W rooms := ⟨hr1, hr2⟩
  have e36 := (e4.trans e5).trans e6
  have hw6 := hw3.mono e36
  -- kept, plan
  refine q_asgT2' (Θ := fun x y H' => ∃ k pl kept plan, x = .ref k ∧ y = .ref pl ∧ L1 nv H' k kept ∧ L1 ov H' pl plan ∧ KeepRes W p rooms kept plan) (evp_two (fun x y H H' e ⟨k, pl, kept, plan, h1, h2, h3, h4, h5⟩ => ⟨k, pl, kept, plan, h1, h2, h3.mono e, h4.mono e, h5⟩) (evpc (ea3 (ev_var rfl) (ev_var rfl) (ev_var rfl)) fun H2 e2 Q q _ => ⟨c, W, p, rl, rooms, rfl, hw6.mono e2, hW, hp, hrl.mono e2, hr,
    fun v H3 e3 ⟨c, k, pl, x, y, kept, plan, h1, h2, h3, h4, h5⟩ => q v H3 e3 ⟨c, .ref k, .ref pl, x, y, h1, h2, k, pl, kept, plan, rfl, rfl, h3, h4, h5⟩⟩)) ?_
  rintro _ _ H7 e7 ⟨kl, pl, kept, plan, rfl, rfl, hkl, hpl, KR⟩
  have hw7 := hw6.mono e7
  refine q_asgP (Φ := fun v H' => ∃ c', v = .ref c' ∧ IsW H' c' (W.follow plan)) (evpc (ea3 (ev_var rfl) (ev_var rfl) (ev_var rfl)) fun H2 e2 Q q _ => ⟨c, W, p, pl, plan, rfl, hw7.mono e2, hW, hp, hpl.mono e2, KR.pok, q⟩) ?_
  rintro _ H8 e8 ⟨hc, rfl, hh⟩
  have hw8 := hw7.mono e8
  have hrl8 := (hrl.mono e7).mono e8
  have hkl8 := hkl.mono e8
  have G0 := KR.good hW
  -- the kept rooms
  refine q_forLn (ev_var rfl) (sq_of hkl8) (fun i σ' H' => ∃ v, σ' = [some (.ref a), some (.ref c), some (nv W.n), some (.ref el), some (nv p), some (sv m), some (.ref rl), some (.ref kl), some (.ref pl), some (.ref hc), v, none, none, none] ∧ Ex H8 H') (fun H9 e9 => ⟨_, rfl, e9⟩) (fun i σ' H' _ ⟨_, _, e⟩ => sq_of (hkl8.mono e)) ?_ ?_
  · rintro i x σ' H9 hi ⟨v, rfl, e9⟩
    rw [List.getElem?_map] at hi
    obtain ⟨r, hri, rfl⟩ := Option.map_eq_some_iff.mp hi
    have hrk : r ∈ kept := List.mem_of_getElem? hri
    refine q_ifF rfl (evp_niP (k := r) (ev_var rfl) ((evp_fr hW (hw8.mono e9) hr (hrl8.mono e9) hM0 (ev_var rfl) (ev_var rfl) (evp_new (e := sv) (xs := []) (el_lst ea_nil (Nat.zero_le _)))).imp fun v H10 e10 ⟨k, ys, h1, h2, F⟩ => ⟨k, ys, h1, h2, F.max _ G0.1 r hrk⟩)) fun H10 e10 => ?_
    have e810 := e9.trans e10
    exact s_ifF rfl (ev_notT (ev_wif hW (hw8.mono e810) hr (hrl8.mono e810) hM0 (ev_var rfl) (ev_var rfl) (evp_new (e := sv) (xs := []) (el_lst ea_nil (Nat.zero_le _)))
      (evp_fw hW KR.pok (hh.mono e810) hr (hrl8.mono e810) hM0 ⟨_, G0.2, hrk⟩ (ev_var rfl) (ev_var rfl) (evp_new (e := sv) (xs := []) (el_lst ea_nil (Nat.zero_le _))) (ev_var rfl)))) fun H11 e11 => ⟨_, rfl, e810.trans e11⟩
  rintro σ' H9 ⟨v10, rfl, e9⟩
  have hw9 := hw8.mono e9
  have hev9 := (((hev.mono e36).mono e7).mono e8).mono e9
  have hMk : Rooms W (markOf W m) := ⟨List.pairwise_lt_range.filter _, fun x hx => List.mem_range.mp (List.mem_filter.mp hx).1⟩
  have hin : ∀ r ∈ markOf W m, m ∈ W.mks r := fun r hx => of_decide_eq_true (List.mem_filter.mp hx).2
  clear KR G0 hpl hkl hkl8 hh
  clear plan
  -- ranks, plan
  refine q_asgT2' (Θ := fun x y H' => ∃ k pl rk plan, x = .ref k ∧ y = .ref pl ∧ L1 ov H' k rk ∧ L1 ov H' pl plan ∧ AgainRes W p (markOf W m) rk plan) (evp_two (fun x y H H' e ⟨k, pl, rk, plan, h1, h2, h3, h4, h5⟩ => ⟨k, pl, rk, plan, h1, h2, h3.mono e, h4.mono e, h5⟩)
    (evp_call (eap_cons mono_eq (EvP.of (v := .ref c) (ev_var rfl)) (eap_cons mono_eq (EvP.of (v := nv p) (ev_var rfl)) (eap_cons (mono_Lp (e := nv) (xs := markOf W m)) (evpc (ea2 (v := .ref c) (w := sv m) (ev_var rfl) (ev_var rfl)) fun H2 e2 Q q _ => ⟨c, W, m, rfl, hw9.mono e2, hW, by omega, q⟩) eap_nil))) (by
      rintro _ H2 e ⟨_, _, rfl, rfl, _, _, rfl, rfl, _, _, rfl, ⟨mk, rfl, hmk⟩, rfl⟩ Q q E
      exact ⟨c, W, p, mk, markOf W m, rfl, hw9.mono e, hW, hp, hmk, hMk, fun v H3 e3 ⟨c, k, pl, x, y, rk, plan, h1, h2, h3, h4, h5⟩ => q v H3 e3 ⟨c, .ref k, .ref pl, x, y, h1, h2, k, pl, rk, plan, rfl, rfl, h3, h4, h5⟩⟩))) ?_
  rintro _ _ H10 e10 ⟨kr, pl2, rk, plan, rfl, rfl, hkr, hpl, AR⟩
  have hw10 := hw9.mono e10
  refine q_asgP (Φ := fun v H' => ∃ c', v = .ref c' ∧ IsW H' c' (W.follow plan)) (evpc (ea3 (ev_var rfl) (ev_var rfl) (ev_var rfl)) fun H2 e2 Q q _ => ⟨c, W, p, pl2, plan, rfl, hw10.mono e2, hW, hp, hpl.mono e2, AR.pok, q⟩) ?_
  rintro _ H11 e11 ⟨hc2, rfl, hh⟩
  have hw11 := hw10.mono e11
  have hev11 := (hev9.mono e10).mono e11
  refine q_asgP (evp_fr hW hw11 hE hev11 hM (ev_var rfl) (ev_var rfl) (evp_new (e := sv) (xs := [m]) (el_lst (ea1 (ev_var rfl)) (by show 1 ≤ 100000; decide)))) ?_
  rintro _ H12 e12 ⟨fl, ys, rfl, hfl, F⟩
  have G1 := AR.good (m := m) hW hin (fun r hr => List.mem_range.mpr hr)
  have e112 := e11.trans e12
  have hev12 := hev11.mono e12
  refine q_forLn (ev_var rfl) (sq_of hev12) (fun i σ' H' => ∃ v w, σ' = [some (.ref a), some (.ref c), some (nv W.n), some (.ref el), some (nv p), some (sv m), some (.ref rl), some (.ref kl), some (.ref pl2), some (.ref hc2), v, some (.ref kr), some (.ref fl), w] ∧ Ex H12 H') (fun H9 e9 => ⟨_, _, rfl, e9⟩) (fun i σ' H' _ ⟨_, _, _, e⟩ => sq_of (hev12.mono e)) ?_ ?_
  · rintro i x σ' H13 hi ⟨v, w, rfl, e13⟩
    rw [List.getElem?_map] at hi
    obtain ⟨r, hri, rfl⟩ := Option.map_eq_some_iff.mp hi
    have hrn : r < W.n := hE.2 r (List.mem_of_getElem? hri)
    have hkr13 := (hkr.mono e112).mono e13
    have hlr : r < rk.length := by rw [AR.len]; exact hrn
    refine q_ifF (b := (rg rk r).isSome && decide (r ∉ ys)) ?_ (et_and (et_test (ev_notNO (ev_rg hkr13 (ev_var rfl) (ev_var rfl) hlr))) fun _ => et_test (ev_niN (ev_var rfl) (ev_var rfl) (hfl.mono e13))) fun H14 e14 => ?_
    · cases hs : (rg rk r).isSome with
      | false => rfl
      | true =>
        have : r ∈ ys := F.max _ G1.1 r hs
        rw [decide_eq_false fun z => z this]
        rfl
    have e1214 := e13.trans e14
    refine s_when (et_test (ev_notNO (ev_rg (hkr13.mono e14) (ev_var rfl) (ev_var rfl) hlr))) (fun hs H15 e15 => ?_) fun _ H15 e15 => ⟨_, _, rfl, e1214.trans e15⟩
    have e1215 := e1214.trans e15
    refine q_asgP (evp_fw hW AR.pok (hh.mono (e12.trans e1215)) hE (hev12.mono e1215) hM ⟨_, G1.2, hs⟩ (ev_var rfl) (ev_var rfl) (evp_new (e := sv) (xs := [m]) (el_lst (ea1 (ev_var rfl)) (by show 1 ≤ 100000; decide))) (ev_var rfl)) ?_
    rintro _ H16 e16 ⟨d, front, ring, rfl, hwy, hfw⟩
    have e1216 := e1215.trans e16
    exact s_ifF rfl (ev_notT (ev_wif hW (hw11.mono (e12.trans e1216)) hE (hev12.mono e1216) hM (ev_var rfl) (ev_var rfl) (evp_new (e := sv) (xs := [m]) (el_lst (ea1 (ev_var rfl)) (by show 1 ≤ 100000; decide)))
      (fun H17 e17 Q q => (ev_var rfl : Ev (tVar 13) _ H16 (.ref d)) H17 e17 _ fun H18 e18 => q _ H18 e18 ⟨d, front, ring, rfl, hwy.mono (e17.trans e18), hfw⟩))) fun H17 e17 => ⟨_, _, rfl, e1216.trans e17⟩
  · rintro σ' H13 ⟨v, w, rfl, e13⟩
    exact s_ret ev_c fun H14 e14 => q H14
end
end FH
namespace FH
open PySem PySem.Spec PyProof.Rows L2 Evl
section
variable {P : Program} {w : World} {K : PySem.W.Frag} {mg : Str → Option Value} {base : Heap}
theorem dk_law_cell_at (T : Txt K mg) {f : Addr} {fd : FuncData} (F : L2.Fun K "_law_cell_at" "_law_cell_at" s_law_cell_at f fd) (g : mg "_law_cell_at" = some (.ref f)) : Dk P w K mg base "_law_cell_at" ["script", "k"] 1 (spCell K) := ⟨f, fd, F.ok sc_law_cell_at (fun vs H Q E h => by
    obtain ⟨_, _, _, rfl, _⟩ := h
    rfl) (fun cdv A outer s H vs Q E hr h => ⟨_, der_law_cell_at T hr, p_law_cell_at vs H Q E h⟩), g, F.kp, F.binds fun _ _ _ _ _ _ us hl => match us, hl with | [_, _], _ => rfl⟩
theorem dk_law_draw (T : Txt K mg) {f : Addr} {fd : FuncData} (F : L2.Fun K "_law_draw" "_law_draw" s_law_draw f fd) (g : mg "_law_draw" = some (.ref f)) : Dk P w K mg base "_law_draw" ["cell", "k", "bound"] 1 spDraw := ⟨f, fd, F.ok sc_law_draw (fun vs H Q E h => by
    obtain ⟨_, _, _, rfl, _⟩ := h
    rfl) (fun cdv A outer s H vs Q E hr h => ⟨_, der_law_draw T hr, p_law_draw vs H Q E h⟩), g, F.kp, F.binds fun _ _ _ _ _ _ us hl => match us, hl with | [_, _, _], _ => rfl⟩
theorem dk_law_world (T : Txt K mg) {f : Addr} {fd : FuncData} (F : L2.Fun K "_law_world" "_law_world" s_law_world f fd) (g : mg "_law_world" = some (.ref f)) (D_law_cell_at : Dk P w K mg base "_law_cell_at" ["script", "k"] 1 (spCell K)) (D_law_draw : Dk P w K mg base "_law_draw" ["cell", "k", "bound"] 1 spDraw) : Dk P w K mg base "_law_world" ["script", "at", "most"] 2 (spLawWorld K) := ⟨f, fd, F.ok sc_law_world (fun vs H Q E h => by
    obtain ⟨_, _, rfl, _⟩ := h
    rfl) (fun cdv A outer s H vs Q E hr h => ⟨_, der_law_world T D_law_cell_at D_law_draw hr, p_law_world vs H Q E h⟩), g, F.kp, F.binds fun _ _ _ _ _ _ us hl => match us, hl with | [_, _, _], _ => rfl⟩
theorem dk_law_rooms (T : Txt K mg) {f : Addr} {fd : FuncData} (F : L2.Fun K "_law_rooms" "_law_rooms" s_law_rooms f fd) (g : mg "_law_rooms" = some (.ref f)) (D_law_draw : Dk P w K mg base "_law_draw" ["cell", "k", "bound"] 1 spDraw) : Dk P w K mg base "_law_rooms" ["cell", "many"] 2 spLawRooms := ⟨f, fd, F.ok sc_law_rooms (fun vs H Q E h => by
    obtain ⟨_, _, rfl, _⟩ := h
    rfl) (fun cdv A outer s H vs Q E hr h => ⟨_, der_law_rooms T D_law_draw hr, p_law_rooms vs H Q E h⟩), g, F.kp, F.binds fun _ _ _ _ _ _ us hl => match us, hl with | [_, _], _ => rfl⟩
theorem dk_rises (T : Txt K mg) {f : Addr} {fd : FuncData} (F : L2.Fun K "rises" "rises" s_rises f fd) (g : mg "rises" = some (.ref f)) : Dk P w K mg base "rises" ["some"] 1 spRises := ⟨f, fd, F.ok sc_rises (fun vs H Q E h => by
    obtain ⟨_, rfl, _⟩ := h
    rfl) (fun cdv A outer s H vs Q E hr h => (p_rises vs H Q E h).elim (fun q => ⟨_, der_risesI T hr, q⟩) fun q => ⟨_, der_risesS T hr, q⟩), g, F.kp, F.binds fun _ _ _ _ _ _ us hl => match us, hl with | [_], _ => rfl⟩
theorem dk_are_marks (T : Txt K mg) {f : Addr} {fd : FuncData} (F : L2.Fun K "are_marks" "are_marks" s_are_marks f fd) (g : mg "are_marks" = some (.ref f)) (D_rises : Dk P w K mg base "rises" ["some"] 1 spRises) : Dk P w K mg base "are_marks" ["marks"] 2 spAreMarks := ⟨f, fd, F.ok sc_are_marks (fun vs H Q E h => by
    obtain ⟨_, _, rfl, _⟩ := h
    rfl) (fun cdv A outer s H vs Q E hr h => ⟨_, der_are_marks T D_rises hr, p_are_marks vs H Q E h⟩), g, F.kp, F.binds fun _ _ _ _ _ _ us hl => match us, hl with | [_], _ => rfl⟩
theorem dk_are_rooms (T : Txt K mg) {f : Addr} {fd : FuncData} (F : L2.Fun K "are_rooms" "are_rooms" s_are_rooms f fd) (g : mg "are_rooms" = some (.ref f)) (D_rises : Dk P w K mg base "rises" ["some"] 1 spRises) : Dk P w K mg base "are_rooms" ["rooms", "many"] 2 spAreRooms := ⟨f, fd, F.ok sc_are_rooms (fun vs H Q E h => by
    obtain ⟨_, _, _, rfl, _⟩ := h
    rfl) (fun cdv A outer s H vs Q E hr h => ⟨_, der_are_rooms T D_rises hr, p_are_rooms vs H Q E h⟩), g, F.kp, F.binds fun _ _ _ _ _ _ us hl => match us, hl with | [_, _], _ => rfl⟩
theorem dk_is_world (T : Txt K mg) {f : Addr} {fd : FuncData} (F : L2.Fun K "is_world" "is_world" s_is_world f fd) (g : mg "is_world" = some (.ref f)) (D_are_marks : Dk P w K mg base "are_marks" ["marks"] 2 spAreMarks) (D_are_rooms : Dk P w K mg base "are_rooms" ["rooms", "many"] 2 spAreRooms) : Dk P w K mg base "is_world" ["owners", "marks", "steps"] 3 spIsWorld := ⟨f, fd, F.ok sc_is_world (fun vs H Q E h => by
    obtain ⟨_, _, _, _, rfl, _⟩ := h
    rfl) (fun cdv A outer s H vs Q E hr h => ⟨_, der_is_world T D_are_marks D_are_rooms hr, p_is_world vs H Q E h⟩), g, F.kp, F.binds fun _ _ _ _ _ _ us hl => match us, hl with | [_, _, _], _ => rfl⟩
theorem dk_ask_world (T : Txt K mg) {f : Addr} {fd : FuncData} (F : L2.Fun K "ask_world" "ask_world" s_ask_world f fd) (g : mg "ask_world" = some (.ref f)) (D_is_world : Dk P w K mg base "is_world" ["owners", "marks", "steps"] 3 spIsWorld) : Dk P w K mg base "ask_world" ["world"] 4 spAskWorld := ⟨f, fd, F.ok sc_ask_world (fun vs H Q E h => by
    obtain ⟨_, _, rfl, _⟩ := h
    rfl) (fun cdv A outer s H vs Q E hr h => ⟨_, der_ask_world T D_is_world hr, p_ask_world vs H Q E h⟩), g, F.kp, F.binds fun _ _ _ _ _ _ us hl => match us, hl with | [_], _ => rfl⟩
theorem dk_ask_player (T : Txt K mg) {f : Addr} {fd : FuncData} (F : L2.Fun K "ask_player" "ask_player" s_ask_player f fd) (g : mg "ask_player" = some (.ref f)) : Dk P w K mg base "ask_player" ["player"] 1 spAskPlayer := ⟨f, fd, F.ok sc_ask_player (fun vs H Q E h => by
    obtain ⟨_, rfl, _⟩ := h
    rfl) (fun cdv A outer s H vs Q E hr h => ⟨_, der_ask_player T hr, p_ask_player vs H Q E h⟩), g, F.kp, F.binds fun _ _ _ _ _ _ us hl => match us, hl with | [_], _ => rfl⟩
theorem dk_is_plan (T : Txt K mg) {f : Addr} {fd : FuncData} (F : L2.Fun K "is_plan" "is_plan" s_is_plan f fd) (g : mg "is_plan" = some (.ref f)) (D_ask_world : Dk P w K mg base "ask_world" ["world"] 4 spAskWorld) (D_ask_player : Dk P w K mg base "ask_player" ["player"] 1 spAskPlayer) : Dk P w K mg base "is_plan" ["world", "player", "plan"] 5 spIsPlan := ⟨f, fd, F.ok sc_is_plan (fun vs H Q E h => by
    obtain ⟨_, _, _, _, _, rfl, _⟩ := h
    rfl) (fun cdv A outer s H vs Q E hr h => ⟨_, der_is_plan T D_ask_world D_ask_player hr, p_is_plan vs H Q E h⟩), g, F.kp, F.binds fun _ _ _ _ _ _ us hl => match us, hl with | [_, _, _], _ => rfl⟩
theorem dk_ask_plan (T : Txt K mg) {f : Addr} {fd : FuncData} (F : L2.Fun K "ask_plan" "ask_plan" s_ask_plan f fd) (g : mg "ask_plan" = some (.ref f)) (D_is_plan : Dk P w K mg base "is_plan" ["world", "player", "plan"] 5 spIsPlan) : Dk P w K mg base "ask_plan" ["world", "player", "plan"] 6 spAskPlan := ⟨f, fd, F.ok sc_ask_plan (fun vs H Q E h => by
    obtain ⟨_, _, _, _, _, rfl, _⟩ := h
    rfl) (fun cdv A outer s H vs Q E hr h => ⟨_, der_ask_plan T D_is_plan hr, p_ask_plan vs H Q E h⟩), g, F.kp, F.binds fun _ _ _ _ _ _ us hl => match us, hl with | [_, _, _], _ => rfl⟩
theorem dk_follow (T : Txt K mg) {f : Addr} {fd : FuncData} (F : L2.Fun K "follow" "follow" s_follow f fd) (g : mg "follow" = some (.ref f)) (D_ask_plan : Dk P w K mg base "ask_plan" ["world", "player", "plan"] 6 spAskPlan) : Dk P w K mg base "follow" ["world", "player", "plan"] 7 spFollow := ⟨f, fd, F.ok sc_follow (fun vs H Q E h => by
    obtain ⟨_, _, _, _, _, rfl, _⟩ := h
    rfl) (fun cdv A outer s H vs Q E hr h => ⟨_, der_follow T D_ask_plan hr, p_follow vs H Q E h⟩), g, F.kp, F.binds fun _ _ _ _ _ _ us hl => match us, hl with | [_, _, _], _ => rfl⟩
theorem dk_ask_marks (T : Txt K mg) {f : Addr} {fd : FuncData} (F : L2.Fun K "ask_marks" "ask_marks" s_ask_marks f fd) (g : mg "ask_marks" = some (.ref f)) (D_are_marks : Dk P w K mg base "are_marks" ["marks"] 2 spAreMarks) : Dk P w K mg base "ask_marks" ["marks"] 3 spAskMarks := ⟨f, fd, F.ok sc_ask_marks (fun vs H Q E h => by
    obtain ⟨_, _, rfl, _⟩ := h
    rfl) (fun cdv A outer s H vs Q E hr h => ⟨_, der_ask_marks T D_are_marks hr, p_ask_marks vs H Q E h⟩), g, F.kp, F.binds fun _ _ _ _ _ _ us hl => match us, hl with | [_], _ => rfl⟩
theorem dk_ask_rooms (T : Txt K mg) {f : Addr} {fd : FuncData} (F : L2.Fun K "ask_rooms" "ask_rooms" s_ask_rooms f fd) (g : mg "ask_rooms" = some (.ref f)) (D_are_rooms : Dk P w K mg base "are_rooms" ["rooms", "many"] 2 spAreRooms) : Dk P w K mg base "ask_rooms" ["world", "rooms"] 3 spAskRooms := ⟨f, fd, F.ok sc_ask_rooms (fun vs H Q E h => by
    obtain ⟨_, _, _, _, rfl, _⟩ := h
    rfl) (fun cdv A outer s H vs Q E hr h => ⟨_, der_ask_rooms T D_are_rooms hr, p_ask_rooms vs H Q E h⟩), g, F.kp, F.binds fun _ _ _ _ _ _ us hl => match us, hl with | [_, _], _ => rfl⟩
theorem dk_ask_fair (T : Txt K mg) {f : Addr} {fd : FuncData} (F : L2.Fun K "ask_fair" "ask_fair" s_ask_fair f fd) (g : mg "ask_fair" = some (.ref f)) (D_ask_world : Dk P w K mg base "ask_world" ["world"] 4 spAskWorld) (D_ask_marks : Dk P w K mg base "ask_marks" ["marks"] 3 spAskMarks) (D_ask_rooms : Dk P w K mg base "ask_rooms" ["world", "rooms"] 3 spAskRooms) : Dk P w K mg base "ask_fair" ["world", "rooms", "marks"] 5 spAskFair := ⟨f, fd, F.ok sc_ask_fair (fun vs H Q E h => by
    obtain ⟨_, _, _, _, _, _, rfl, _⟩ := h
    rfl) (fun cdv A outer s H vs Q E hr h => ⟨_, der_ask_fair T D_ask_world D_ask_marks D_ask_rooms hr, p_ask_fair vs H Q E h⟩), g, F.kp, F.binds fun _ _ _ _ _ _ us hl => match us, hl with | [_, _, _], _ => rfl⟩
theorem dk_inner (T : Txt K mg) {f : Addr} {fd : FuncData} (F : L2.Fun K "inner" "inner" s_inner f fd) (g : mg "inner" = some (.ref f)) : Dk P w K mg base "inner" ["world", "rooms"] 1 spInner := ⟨f, fd, F.ok sc_inner (fun vs H Q E h => by
    obtain ⟨_, _, _, _, rfl, _⟩ := h
    rfl) (fun cdv A outer s H vs Q E hr h => ⟨_, der_inner T hr, p_inner vs H Q E h⟩), g, F.kp, F.binds fun _ _ _ _ _ _ us hl => match us, hl with | [_, _], _ => rfl⟩
theorem dk_leading (T : Txt K mg) {f : Addr} {fd : FuncData} (F : L2.Fun K "leading" "leading" s_leading f fd) (g : mg "leading" = some (.ref f)) : Dk P w K mg base "leading" ["steps", "kept", "goal"] 1 spLeading := ⟨f, fd, F.ok sc_leading (fun vs H Q E h => by
    obtain ⟨_, _, _, _, _, _, rfl, _⟩ := h
    rfl) (fun cdv A outer s H vs Q E hr h => ⟨_, der_leading T hr, p_leading vs H Q E h⟩), g, F.kp, F.binds fun _ _ _ _ _ _ us hl => match us, hl with | [_, _, _], _ => rfl⟩
theorem dk_taken_off (T : Txt K mg) {f : Addr} {fd : FuncData} (F : L2.Fun K "taken_off" "taken_off" s_taken_off f fd) (g : mg "taken_off" = some (.ref f)) (D_inner : Dk P w K mg base "inner" ["world", "rooms"] 1 spInner) (D_leading : Dk P w K mg base "leading" ["steps", "kept", "goal"] 1 spLeading) : Dk P w K mg base "taken_off" ["world", "rooms", "marks"] 2 spTaken := ⟨f, fd, F.ok sc_taken_off (fun vs H Q E h => by
    obtain ⟨_, _, _, _, _, _, rfl, _⟩ := h
    rfl) (fun cdv A outer s H vs Q E hr h => ⟨_, der_taken_off T D_inner D_leading hr, p_taken_off vs H Q E h⟩), g, F.kp, F.binds fun _ _ _ _ _ _ us hl => match us, hl with | [_, _, _], _ => rfl⟩
theorem dk_fair_rooms (T : Txt K mg) {f : Addr} {fd : FuncData} (F : L2.Fun K "fair_rooms" "fair_rooms" s_fair_rooms f fd) (g : mg "fair_rooms" = some (.ref f)) (D_ask_fair : Dk P w K mg base "ask_fair" ["world", "rooms", "marks"] 5 spAskFair) (D_taken_off : Dk P w K mg base "taken_off" ["world", "rooms", "marks"] 2 spTaken) : Dk P w K mg base "fair_rooms" ["world", "rooms", "marks"] 6 spFairRooms := ⟨f, fd, F.ok sc_fair_rooms (fun vs H Q E h => by
    obtain ⟨_, _, _, _, _, _, rfl, _⟩ := h
    rfl) (fun cdv A outer s H vs Q E hr h => ⟨_, der_fair_rooms T D_ask_fair D_taken_off hr, p_fair_rooms vs H Q E h⟩), g, F.kp, F.binds fun _ _ _ _ _ _ us hl => match us, hl with | [_, _, _], _ => rfl⟩
theorem dk_ask_game (T : Txt K mg) {f : Addr} {fd : FuncData} (F : L2.Fun K "ask_game" "ask_game" s_ask_game f fd) (g : mg "ask_game" = some (.ref f)) (D_ask_world : Dk P w K mg base "ask_world" ["world"] 4 spAskWorld) (D_ask_player : Dk P w K mg base "ask_player" ["player"] 1 spAskPlayer) (D_ask_rooms : Dk P w K mg base "ask_rooms" ["world", "rooms"] 3 spAskRooms) : Dk P w K mg base "ask_game" ["world", "player", "rooms"] 5 spAskGame := ⟨f, fd, F.ok sc_ask_game (fun vs H Q E h => by
    obtain ⟨_, _, _, _, _, rfl, _⟩ := h
    rfl) (fun cdv A outer s H vs Q E hr h => ⟨_, der_ask_game T D_ask_world D_ask_player D_ask_rooms hr, p_ask_game vs H Q E h⟩), g, F.kp, F.binds fun _ _ _ _ _ _ us hl => match us, hl with | [_, _, _], _ => rfl⟩
theorem dk_can_now (T : Txt K mg) {f : Addr} {fd : FuncData} (F : L2.Fun K "can_now" "can_now" s_can_now f fd) (g : mg "can_now" = some (.ref f)) : Dk P w K mg base "can_now" ["world", "player", "room", "known"] 1 spCanNow := ⟨f, fd, F.ok sc_can_now (fun vs H Q E h => by
    obtain ⟨_, _, _, _, _, _, rfl, _⟩ := h
    rfl) (fun cdv A outer s H vs Q E hr h => ⟨_, der_can_now T hr, p_can_now vs H Q E h⟩), g, F.kp, F.binds fun _ _ _ _ _ _ us hl => match us, hl with | [_, _, _, _], _ => rfl⟩
theorem dk_brought (T : Txt K mg) {f : Addr} {fd : FuncData} (F : L2.Fun K "brought" "brought" s_brought f fd) (g : mg "brought" = some (.ref f)) (D_can_now : Dk P w K mg base "can_now" ["world", "player", "room", "known"] 1 spCanNow) : Dk P w K mg base "brought" ["world", "player", "rooms", "within", "had"] 2 spBrought := ⟨f, fd, F.ok sc_brought (fun vs H Q E h => by
    obtain ⟨_, _, _, _, _, _, _, _, _, rfl, _⟩ := h
    rfl) (fun cdv A outer s H vs Q E hr h => ⟨_, der_brought T D_can_now hr, p_brought vs H Q E h⟩), g, F.kp, F.binds fun _ _ _ _ _ _ us hl => match us, hl with | [_, _, _, _, _], _ => rfl⟩
theorem dk_downwards (T : Txt K mg) {f : Addr} {fd : FuncData} (F : L2.Fun K "downwards" "downwards" s_downwards f fd) (g : mg "downwards" = some (.ref f)) : Dk P w K mg base "downwards" ["world", "player", "ranks"] 1 spDownwards := ⟨f, fd, F.ok sc_downwards (fun vs H Q E h => by
    obtain ⟨_, _, _, _, _, rfl, _⟩ := h
    rfl) (fun cdv A outer s H vs Q E hr h => ⟨_, der_downwards T hr, p_downwards vs H Q E h⟩), g, F.kp, F.binds fun _ _ _ _ _ _ us hl => match us, hl with | [_, _, _], _ => rfl⟩
theorem dk_bring (T : Txt K mg) {f : Addr} {fd : FuncData} (F : L2.Fun K "bring" "bring" s_bring f fd) (g : mg "bring" = some (.ref f)) (D_ask_game : Dk P w K mg base "ask_game" ["world", "player", "rooms"] 5 spAskGame) (D_brought : Dk P w K mg base "brought" ["world", "player", "rooms", "within", "had"] 2 spBrought) (D_downwards : Dk P w K mg base "downwards" ["world", "player", "ranks"] 1 spDownwards) : Dk P w K mg base "bring" ["world", "player", "rooms"] 6 spBring := ⟨f, fd, F.ok sc_bring (fun vs H Q E h => by
    obtain ⟨_, _, _, _, _, rfl, _⟩ := h
    rfl) (fun cdv A outer s H vs Q E hr h => ⟨_, der_bring T D_ask_game D_brought D_downwards hr, p_bring vs H Q E h⟩), g, F.kp, F.binds fun _ _ _ _ _ _ us hl => match us, hl with | [_, _, _], _ => rfl⟩
theorem dk_beyond (T : Txt K mg) {f : Addr} {fd : FuncData} (F : L2.Fun K "beyond" "beyond" s_beyond f fd) (g : mg "beyond" = some (.ref f)) : Dk P w K mg base "beyond" ["world", "rooms"] 1 spBeyond := ⟨f, fd, F.ok sc_beyond (fun vs H Q E h => by
    obtain ⟨_, _, _, _, rfl, _⟩ := h
    rfl) (fun cdv A outer s H vs Q E hr h => ⟨_, der_beyond T hr, p_beyond vs H Q E h⟩), g, F.kp, F.binds fun _ _ _ _ _ _ us hl => match us, hl with | [_, _], _ => rfl⟩
theorem dk_keep (T : Txt K mg) {f : Addr} {fd : FuncData} (F : L2.Fun K "keep" "keep" s_keep f fd) (g : mg "keep" = some (.ref f)) (D_ask_game : Dk P w K mg base "ask_game" ["world", "player", "rooms"] 5 spAskGame) (D_bring : Dk P w K mg base "bring" ["world", "player", "rooms"] 6 spBring) (D_beyond : Dk P w K mg base "beyond" ["world", "rooms"] 1 spBeyond) : Dk P w K mg base "keep" ["world", "player", "rooms"] 7 spKeep := ⟨f, fd, F.ok sc_keep (fun vs H Q E h => by
    obtain ⟨_, _, _, _, _, rfl, _⟩ := h
    rfl) (fun cdv A outer s H vs Q E hr h => ⟨_, der_keep T D_ask_game D_bring D_beyond hr, p_keep vs H Q E h⟩), g, F.kp, F.binds fun _ _ _ _ _ _ us hl => match us, hl with | [_, _, _], _ => rfl⟩
theorem dk_shut_out (T : Txt K mg) {f : Addr} {fd : FuncData} (F : L2.Fun K "shut_out" "shut_out" s_shut_out f fd) (g : mg "shut_out" = some (.ref f)) (D_brought : Dk P w K mg base "brought" ["world", "player", "rooms", "within", "had"] 2 spBrought) : Dk P w K mg base "shut_out" ["world", "player", "rooms", "left"] 3 spShutOut := ⟨f, fd, F.ok sc_shut_out (fun vs H Q E h => by
    obtain ⟨_, _, _, _, _, _, _, rfl, _⟩ := h
    rfl) (fun cdv A outer s H vs Q E hr h => ⟨_, der_shut_out T D_brought hr, p_shut_out vs H Q E h⟩), g, F.kp, F.binds fun _ _ _ _ _ _ us hl => match us, hl with | [_, _, _, _], _ => rfl⟩
theorem dk_plan_by (T : Txt K mg) {f : Addr} {fd : FuncData} (F : L2.Fun K "plan_by" "plan_by" s_plan_by f fd) (g : mg "plan_by" = some (.ref f)) : Dk P w K mg base "plan_by" ["world", "player", "ranks"] 1 spPlanBy := ⟨f, fd, F.ok sc_plan_by (fun vs H Q E h => by
    obtain ⟨_, _, _, _, _, rfl, _⟩ := h
    rfl) (fun cdv A outer s H vs Q E hr h => ⟨_, der_plan_by T hr, p_plan_by vs H Q E h⟩), g, F.kp, F.binds fun _ _ _ _ _ _ us hl => match us, hl with | [_, _, _], _ => rfl⟩
theorem dk_turned_to (T : Txt K mg) {f : Addr} {fd : FuncData} (F : L2.Fun K "turned_to" "turned_to" s_turned_to f fd) (g : mg "turned_to" = some (.ref f)) : Dk P w K mg base "turned_to" ["turns", "there", "room"] 1 spTurnedTo := ⟨f, fd, F.ok sc_turned_to (fun vs H Q E h => by
    obtain ⟨_, _, _, _, rfl, _⟩ := h
    rfl) (fun cdv A outer s H vs Q E hr h => ⟨_, der_turned_to T hr, p_turned_to vs H Q E h⟩), g, F.kp, F.binds fun _ _ _ _ _ _ us hl => match us, hl with | [_, _, _], _ => rfl⟩
theorem dk_counter_by (T : Txt K mg) {f : Addr} {fd : FuncData} (F : L2.Fun K "counter_by" "counter_by" s_counter_by f fd) (g : mg "counter_by" = some (.ref f)) (D_turned_to : Dk P w K mg base "turned_to" ["turns", "there", "room"] 1 spTurnedTo) : Dk P w K mg base "counter_by" ["world", "other", "turns"] 2 spCounterBy := ⟨f, fd, F.ok sc_counter_by (fun vs H Q E h => by
    obtain ⟨_, _, _, _, _, rfl, _⟩ := h
    rfl) (fun cdv A outer s H vs Q E hr h => ⟨_, der_counter_by T D_turned_to hr, p_counter_by vs H Q E h⟩), g, F.kp, F.binds fun _ _ _ _ _ _ us hl => match us, hl with | [_, _, _], _ => rfl⟩
theorem dk_again (T : Txt K mg) {f : Addr} {fd : FuncData} (F : L2.Fun K "again" "again" s_again f fd) (g : mg "again" = some (.ref f)) (D_ask_game : Dk P w K mg base "ask_game" ["world", "player", "rooms"] 5 spAskGame) (D_shut_out : Dk P w K mg base "shut_out" ["world", "player", "rooms", "left"] 3 spShutOut) (D_plan_by : Dk P w K mg base "plan_by" ["world", "player", "ranks"] 1 spPlanBy) (D_counter_by : Dk P w K mg base "counter_by" ["world", "other", "turns"] 2 spCounterBy) : Dk P w K mg base "again" ["world", "player", "rooms"] 6 spAgain := ⟨f, fd, F.ok sc_again (fun vs H Q E h => by
    obtain ⟨_, _, _, _, _, rfl, _⟩ := h
    rfl) (fun cdv A outer s H vs Q E hr h => ⟨_, der_again T D_ask_game D_shut_out D_plan_by D_counter_by hr, p_again vs H Q E h⟩), g, F.kp, F.binds fun _ _ _ _ _ _ us hl => match us, hl with | [_, _, _], _ => rfl⟩
theorem dk_is_way (T : Txt K mg) {f : Addr} {fd : FuncData} (F : L2.Fun K "is_way" "is_way" s_is_way f fd) (g : mg "is_way" = some (.ref f)) (D_ask_world : Dk P w K mg base "ask_world" ["world"] 4 spAskWorld) : Dk P w K mg base "is_way" ["world", "way"] 5 spIsWay := ⟨f, fd, F.ok sc_is_way (fun vs H Q E h => by
    obtain ⟨_, _, _, _, _, rfl, _⟩ := h
    rfl) (fun cdv A outer s H vs Q E hr h => ⟨_, der_is_way T D_ask_world hr, p_is_way vs H Q E h⟩), g, F.kp, F.binds fun _ _ _ _ _ _ us hl => match us, hl with | [_, _], _ => rfl⟩
theorem dk_ask_way (T : Txt K mg) {f : Addr} {fd : FuncData} (F : L2.Fun K "ask_way" "ask_way" s_ask_way f fd) (g : mg "ask_way" = some (.ref f)) (D_is_way : Dk P w K mg base "is_way" ["world", "way"] 5 spIsWay) : Dk P w K mg base "ask_way" ["world", "way"] 6 spAskWay := ⟨f, fd, F.ok sc_ask_way (fun vs H Q E h => by
    obtain ⟨_, _, _, _, _, rfl, _⟩ := h
    rfl) (fun cdv A outer s H vs Q E hr h => ⟨_, der_ask_way T D_is_way hr, p_ask_way vs H Q E h⟩), g, F.kp, F.binds fun _ _ _ _ _ _ us hl => match us, hl with | [_, _], _ => rfl⟩
theorem dk_way_is_fair (T : Txt K mg) {f : Addr} {fd : FuncData} (F : L2.Fun K "way_is_fair" "way_is_fair" s_way_is_fair f fd) (g : mg "way_is_fair" = some (.ref f)) (D_ask_fair : Dk P w K mg base "ask_fair" ["world", "rooms", "marks"] 5 spAskFair) (D_ask_way : Dk P w K mg base "ask_way" ["world", "way"] 6 spAskWay) : Dk P w K mg base "way_is_fair" ["world", "rooms", "marks", "way"] 7 spWayIsFair := ⟨f, fd, F.ok sc_way_is_fair (fun vs H Q E h => by
    obtain ⟨_, _, _, _, _, _, _, _, _, rfl, _⟩ := h
    rfl) (fun cdv A outer s H vs Q E hr h => ⟨_, der_way_is_fair T D_ask_fair D_ask_way hr, p_way_is_fair vs H Q E h⟩), g, F.kp, F.binds fun _ _ _ _ _ _ us hl => match us, hl with | [_, _, _, _], _ => rfl⟩
theorem dk_marked (T : Txt K mg) {f : Addr} {fd : FuncData} (F : L2.Fun K "marked" "marked" s_marked f fd) (g : mg "marked" = some (.ref f)) (D_ask_world : Dk P w K mg base "ask_world" ["world"] 4 spAskWorld) (D_ask_marks : Dk P w K mg base "ask_marks" ["marks"] 3 spAskMarks) : Dk P w K mg base "marked" ["world", "mark"] 5 spMarked := ⟨f, fd, F.ok sc_marked (fun vs H Q E h => by
    obtain ⟨_, _, _, rfl, _⟩ := h
    rfl) (fun cdv A outer s H vs Q E hr h => ⟨_, der_marked T D_ask_world D_ask_marks hr, p_marked vs H Q E h⟩), g, F.kp, F.binds fun _ _ _ _ _ _ us hl => match us, hl with | [_, _], _ => rfl⟩
theorem dk_ask_room (T : Txt K mg) {f : Addr} {fd : FuncData} (F : L2.Fun K "ask_room" "ask_room" s_ask_room f fd) (g : mg "ask_room" = some (.ref f)) : Dk P w K mg base "ask_room" ["world", "room"] 1 spAskRoom := ⟨f, fd, F.ok sc_ask_room (fun vs H Q E h => by
    obtain ⟨_, _, _, rfl, _⟩ := h
    rfl) (fun cdv A outer s H vs Q E hr h => ⟨_, der_ask_room T hr, p_ask_room vs H Q E h⟩), g, F.kp, F.binds fun _ _ _ _ _ _ us hl => match us, hl with | [_, _], _ => rfl⟩
theorem dk_walk_to (T : Txt K mg) {f : Addr} {fd : FuncData} (F : L2.Fun K "walk_to" "walk_to" s_walk_to f fd) (g : mg "walk_to" = some (.ref f)) : Dk P w K mg base "walk_to" ["steps", "room", "goal"] 1 spWalkTo := ⟨f, fd, F.ok sc_walk_to (fun vs H Q E h => by
    obtain ⟨_, _, _, _, _, rfl, _⟩ := h
    rfl) (fun cdv A outer s H vs Q E hr h => ⟨_, der_walk_to T hr, p_walk_to vs H Q E h⟩), g, F.kp, F.binds fun _ _ _ _ _ _ us hl => match us, hl with | [_, _, _], _ => rfl⟩
theorem dk_reach_of (T : Txt K mg) {f : Addr} {fd : FuncData} (F : L2.Fun K "reach_of" "reach_of" s_reach_of f fd) (g : mg "reach_of" = some (.ref f)) : Dk P w K mg base "reach_of" ["steps", "room"] 1 spReach := ⟨f, fd, F.ok sc_reach_of (fun vs H Q E h => by
    obtain ⟨_, _, _, rfl, _⟩ := h
    rfl) (fun cdv A outer s H vs Q E hr h => ⟨_, der_reach_of T hr, p_reach_of vs H Q E h⟩), g, F.kp, F.binds fun _ _ _ _ _ _ us hl => match us, hl with | [_, _], _ => rfl⟩
theorem dk_fair_way (T : Txt K mg) {f : Addr} {fd : FuncData} (F : L2.Fun K "fair_way" "fair_way" s_fair_way f fd) (g : mg "fair_way" = some (.ref f)) (D_fair_rooms : Dk P w K mg base "fair_rooms" ["world", "rooms", "marks"] 6 spFairRooms) (D_ask_room : Dk P w K mg base "ask_room" ["world", "room"] 1 spAskRoom) (D_inner : Dk P w K mg base "inner" ["world", "rooms"] 1 spInner) (D_walk_to : Dk P w K mg base "walk_to" ["steps", "room", "goal"] 1 spWalkTo) (D_reach_of : Dk P w K mg base "reach_of" ["steps", "room"] 1 spReach) : Dk P w K mg base "fair_way" ["world", "rooms", "marks", "room"] 7 spFairWay := ⟨f, fd, F.ok sc_fair_way (fun vs H Q E h => by
    obtain ⟨_, _, _, _, _, _, _, rfl, _⟩ := h
    rfl) (fun cdv A outer s H vs Q E hr h => ⟨_, der_fair_way T D_fair_rooms D_ask_room D_inner D_walk_to D_reach_of hr, p_fair_way vs H Q E h⟩), g, F.kp, F.binds fun _ _ _ _ _ _ us hl => match us, hl with | [_, _, _, _], _ => rfl⟩
theorem ok_law (T : Txt K mg) {f : Addr} {fd : FuncData} (F : L2.Fun K "law" "law" s_law f fd) (D_law_world : Dk P w K mg base "_law_world" ["script", "at", "most"] 2 (spLawWorld K)) (D_law_draw : Dk P w K mg base "_law_draw" ["cell", "k", "bound"] 1 spDraw) (D_law_rooms : Dk P w K mg base "_law_rooms" ["cell", "many"] 2 spLawRooms) (D_follow : Dk P w K mg base "follow" ["world", "player", "plan"] 7 spFollow) (D_fair_rooms : Dk P w K mg base "fair_rooms" ["world", "rooms", "marks"] 6 spFairRooms) (D_law_cell_at : Dk P w K mg base "_law_cell_at" ["script", "k"] 1 (spCell K)) (D_keep : Dk P w K mg base "keep" ["world", "player", "rooms"] 7 spKeep) (D_again : Dk P w K mg base "again" ["world", "player", "rooms"] 6 spAgain) (D_way_is_fair : Dk P w K mg base "way_is_fair" ["world", "rooms", "marks", "way"] 7 spWayIsFair) (D_marked : Dk P w K mg base "marked" ["world", "mark"] 5 spMarked) (D_fair_way : Dk P w K mg base "fair_way" ["world", "rooms", "marks", "room"] 7 spFairWay) : FnOk P w K mg base CX0 8 f fd ["script"] (spLaw K) := F.ok sc_law (fun vs H Q E h => by
    obtain ⟨_, _, rfl, _⟩ := h
    rfl) (fun cdv A outer s H vs Q E hr h => ⟨_, der_law T D_law_world D_law_draw D_law_rooms D_follow D_fair_rooms D_law_cell_at D_keep D_again D_way_is_fair D_marked D_fair_way hr, p_law vs H Q E h⟩)
end
theorem all_mk {l : PySem.W.OpenLaw} {w : World} {K : PySem.W.Frag} {h : Heap} {mg : Str → Option Value} {fa f0 f1 f2 f3 f4 f5 f6 f7 f8 f9 f10 f11 f12 f13 f14 f15 f16 f17 f18 f19 f20 f21 f22 f23 f24 f25 f26 f27 f28 f29 f30 f31 f32 f33 f34 f35 f36 f37 f38 f39 f40 : Addr} (X : K.In h) (G : h.Ns mainGlobals mg) (hfa : mg "law" = some (.ref fa))
    {od0 an0 : Option Addr} {sl0 : Array (Option Value)} {oc0 kV0 dc0 pm0 cd0 ct0 : Value}
    {od1 an1 : Option Addr} {sl1 : Array (Option Value)} {oc1 kV1 dc1 pm1 cd1 ct1 : Value}
    {od2 an2 : Option Addr} {sl2 : Array (Option Value)} {oc2 kV2 dc2 pm2 cd2 ct2 : Value}
    {od3 an3 : Option Addr} {sl3 : Array (Option Value)} {oc3 kV3 dc3 pm3 cd3 ct3 : Value}
    {od4 an4 : Option Addr} {sl4 : Array (Option Value)} {oc4 kV4 dc4 pm4 cd4 ct4 : Value}
    {od5 an5 : Option Addr} {sl5 : Array (Option Value)} {oc5 kV5 dc5 pm5 cd5 ct5 : Value}
    {od6 an6 : Option Addr} {sl6 : Array (Option Value)} {oc6 kV6 dc6 pm6 cd6 ct6 : Value}
    {od7 an7 : Option Addr} {sl7 : Array (Option Value)} {oc7 kV7 dc7 pm7 cd7 ct7 : Value}
    {od8 an8 : Option Addr} {sl8 : Array (Option Value)} {oc8 kV8 dc8 pm8 cd8 ct8 : Value}
    {od9 an9 : Option Addr} {sl9 : Array (Option Value)} {oc9 kV9 dc9 pm9 cd9 ct9 : Value}
    {od10 an10 : Option Addr} {sl10 : Array (Option Value)} {oc10 kV10 dc10 pm10 cd10 ct10 : Value}
    {od11 an11 : Option Addr} {sl11 : Array (Option Value)} {oc11 kV11 dc11 pm11 cd11 ct11 : Value}
    {od12 an12 : Option Addr} {sl12 : Array (Option Value)} {oc12 kV12 dc12 pm12 cd12 ct12 : Value}
    {od13 an13 : Option Addr} {sl13 : Array (Option Value)} {oc13 kV13 dc13 pm13 cd13 ct13 : Value}
    {od14 an14 : Option Addr} {sl14 : Array (Option Value)} {oc14 kV14 dc14 pm14 cd14 ct14 : Value}
    {od15 an15 : Option Addr} {sl15 : Array (Option Value)} {oc15 kV15 dc15 pm15 cd15 ct15 : Value}
    {od16 an16 : Option Addr} {sl16 : Array (Option Value)} {oc16 kV16 dc16 pm16 cd16 ct16 : Value}
    {od17 an17 : Option Addr} {sl17 : Array (Option Value)} {oc17 kV17 dc17 pm17 cd17 ct17 : Value}
    {od18 an18 : Option Addr} {sl18 : Array (Option Value)} {oc18 kV18 dc18 pm18 cd18 ct18 : Value}
    {od19 an19 : Option Addr} {sl19 : Array (Option Value)} {oc19 kV19 dc19 pm19 cd19 ct19 : Value}
    {od20 an20 : Option Addr} {sl20 : Array (Option Value)} {oc20 kV20 dc20 pm20 cd20 ct20 : Value}
    {od21 an21 : Option Addr} {sl21 : Array (Option Value)} {oc21 kV21 dc21 pm21 cd21 ct21 : Value}
    {od22 an22 : Option Addr} {sl22 : Array (Option Value)} {oc22 kV22 dc22 pm22 cd22 ct22 : Value}
    {od23 an23 : Option Addr} {sl23 : Array (Option Value)} {oc23 kV23 dc23 pm23 cd23 ct23 : Value}
    {od24 an24 : Option Addr} {sl24 : Array (Option Value)} {oc24 kV24 dc24 pm24 cd24 ct24 : Value}
    {od25 an25 : Option Addr} {sl25 : Array (Option Value)} {oc25 kV25 dc25 pm25 cd25 ct25 : Value}
    {od26 an26 : Option Addr} {sl26 : Array (Option Value)} {oc26 kV26 dc26 pm26 cd26 ct26 : Value}
    {od27 an27 : Option Addr} {sl27 : Array (Option Value)} {oc27 kV27 dc27 pm27 cd27 ct27 : Value}
    {od28 an28 : Option Addr} {sl28 : Array (Option Value)} {oc28 kV28 dc28 pm28 cd28 ct28 : Value}
    {od29 an29 : Option Addr} {sl29 : Array (Option Value)} {oc29 kV29 dc29 pm29 cd29 ct29 : Value}
    {od30 an30 : Option Addr} {sl30 : Array (Option Value)} {oc30 kV30 dc30 pm30 cd30 ct30 : Value}
    {od31 an31 : Option Addr} {sl31 : Array (Option Value)} {oc31 kV31 dc31 pm31 cd31 ct31 : Value}
    {od32 an32 : Option Addr} {sl32 : Array (Option Value)} {oc32 kV32 dc32 pm32 cd32 ct32 : Value}
    {od33 an33 : Option Addr} {sl33 : Array (Option Value)} {oc33 kV33 dc33 pm33 cd33 ct33 : Value}
    {od34 an34 : Option Addr} {sl34 : Array (Option Value)} {oc34 kV34 dc34 pm34 cd34 ct34 : Value}
    {od35 an35 : Option Addr} {sl35 : Array (Option Value)} {oc35 kV35 dc35 pm35 cd35 ct35 : Value}
    {od36 an36 : Option Addr} {sl36 : Array (Option Value)} {oc36 kV36 dc36 pm36 cd36 ct36 : Value}
    {od37 an37 : Option Addr} {sl37 : Array (Option Value)} {oc37 kV37 dc37 pm37 cd37 ct37 : Value}
    {od38 an38 : Option Addr} {sl38 : Array (Option Value)} {oc38 kV38 dc38 pm38 cd38 ct38 : Value}
    {od39 an39 : Option Addr} {sl39 : Array (Option Value)} {oc39 kV39 dc39 pm39 cd39 ct39 : Value}
    {od40 an40 : Option Addr} {sl40 : Array (Option Value)} {oc40 kV40 dc40 pm40 cd40 ct40 : Value} {t1 t2}
    (a0 : PySem.W.nsIn K mainGlobals "_law_cell_at" = some (some (.ref f0))) (l0 : K.lookup f0 = some ⟨oc0, od0, .func (PySem.W.fnOf "_law_cell_at" "_law_cell_at" (defArgs s_law_cell_at) (defBody s_law_cell_at) (defScope s_law_cell_at) .none kV0 dc0 pm0 an0 cd0 ct0), sl0⟩) (c0 : PySem.W.codeIn K cd0 "_law_cell_at" = true) (k0 : PySem.W.keepIn K (.ref f0) = true)
    (a1 : PySem.W.nsIn K mainGlobals "_law_draw" = some (some (.ref f1))) (l1 : K.lookup f1 = some ⟨oc1, od1, .func (PySem.W.fnOf "_law_draw" "_law_draw" (defArgs s_law_draw) (defBody s_law_draw) (defScope s_law_draw) .none kV1 dc1 pm1 an1 cd1 ct1), sl1⟩) (c1 : PySem.W.codeIn K cd1 "_law_draw" = true) (k1 : PySem.W.keepIn K (.ref f1) = true)
    (a2 : PySem.W.nsIn K mainGlobals "_law_world" = some (some (.ref f2))) (l2 : K.lookup f2 = some ⟨oc2, od2, .func (PySem.W.fnOf "_law_world" "_law_world" (defArgs s_law_world) (defBody s_law_world) (defScope s_law_world) .none kV2 dc2 pm2 an2 cd2 ct2), sl2⟩) (c2 : PySem.W.codeIn K cd2 "_law_world" = true) (k2 : PySem.W.keepIn K (.ref f2) = true)
    (a3 : PySem.W.nsIn K mainGlobals "_law_rooms" = some (some (.ref f3))) (l3 : K.lookup f3 = some ⟨oc3, od3, .func (PySem.W.fnOf "_law_rooms" "_law_rooms" (defArgs s_law_rooms) (defBody s_law_rooms) (defScope s_law_rooms) .none kV3 dc3 pm3 an3 cd3 ct3), sl3⟩) (c3 : PySem.W.codeIn K cd3 "_law_rooms" = true) (k3 : PySem.W.keepIn K (.ref f3) = true)
    (a4 : PySem.W.nsIn K mainGlobals "rises" = some (some (.ref f4))) (l4 : K.lookup f4 = some ⟨oc4, od4, .func (PySem.W.fnOf "rises" "rises" (defArgs s_rises) (defBody s_rises) (defScope s_rises) .none kV4 dc4 pm4 an4 cd4 ct4), sl4⟩) (c4 : PySem.W.codeIn K cd4 "rises" = true) (k4 : PySem.W.keepIn K (.ref f4) = true)
    (a5 : PySem.W.nsIn K mainGlobals "are_marks" = some (some (.ref f5))) (l5 : K.lookup f5 = some ⟨oc5, od5, .func (PySem.W.fnOf "are_marks" "are_marks" (defArgs s_are_marks) (defBody s_are_marks) (defScope s_are_marks) .none kV5 dc5 pm5 an5 cd5 ct5), sl5⟩) (c5 : PySem.W.codeIn K cd5 "are_marks" = true) (k5 : PySem.W.keepIn K (.ref f5) = true)
    (a6 : PySem.W.nsIn K mainGlobals "are_rooms" = some (some (.ref f6))) (l6 : K.lookup f6 = some ⟨oc6, od6, .func (PySem.W.fnOf "are_rooms" "are_rooms" (defArgs s_are_rooms) (defBody s_are_rooms) (defScope s_are_rooms) .none kV6 dc6 pm6 an6 cd6 ct6), sl6⟩) (c6 : PySem.W.codeIn K cd6 "are_rooms" = true) (k6 : PySem.W.keepIn K (.ref f6) = true)
    (a7 : PySem.W.nsIn K mainGlobals "is_world" = some (some (.ref f7))) (l7 : K.lookup f7 = some ⟨oc7, od7, .func (PySem.W.fnOf "is_world" "is_world" (defArgs s_is_world) (defBody s_is_world) (defScope s_is_world) .none kV7 dc7 pm7 an7 cd7 ct7), sl7⟩) (c7 : PySem.W.codeIn K cd7 "is_world" = true) (k7 : PySem.W.keepIn K (.ref f7) = true)
    (a8 : PySem.W.nsIn K mainGlobals "ask_world" = some (some (.ref f8))) (l8 : K.lookup f8 = some ⟨oc8, od8, .func (PySem.W.fnOf "ask_world" "ask_world" (defArgs s_ask_world) (defBody s_ask_world) (defScope s_ask_world) .none kV8 dc8 pm8 an8 cd8 ct8), sl8⟩) (c8 : PySem.W.codeIn K cd8 "ask_world" = true) (k8 : PySem.W.keepIn K (.ref f8) = true)
    (a9 : PySem.W.nsIn K mainGlobals "ask_player" = some (some (.ref f9))) (l9 : K.lookup f9 = some ⟨oc9, od9, .func (PySem.W.fnOf "ask_player" "ask_player" (defArgs s_ask_player) (defBody s_ask_player) (defScope s_ask_player) .none kV9 dc9 pm9 an9 cd9 ct9), sl9⟩) (c9 : PySem.W.codeIn K cd9 "ask_player" = true) (k9 : PySem.W.keepIn K (.ref f9) = true)
    (a10 : PySem.W.nsIn K mainGlobals "is_plan" = some (some (.ref f10))) (l10 : K.lookup f10 = some ⟨oc10, od10, .func (PySem.W.fnOf "is_plan" "is_plan" (defArgs s_is_plan) (defBody s_is_plan) (defScope s_is_plan) .none kV10 dc10 pm10 an10 cd10 ct10), sl10⟩) (c10 : PySem.W.codeIn K cd10 "is_plan" = true) (k10 : PySem.W.keepIn K (.ref f10) = true)
    (a11 : PySem.W.nsIn K mainGlobals "ask_plan" = some (some (.ref f11))) (l11 : K.lookup f11 = some ⟨oc11, od11, .func (PySem.W.fnOf "ask_plan" "ask_plan" (defArgs s_ask_plan) (defBody s_ask_plan) (defScope s_ask_plan) .none kV11 dc11 pm11 an11 cd11 ct11), sl11⟩) (c11 : PySem.W.codeIn K cd11 "ask_plan" = true) (k11 : PySem.W.keepIn K (.ref f11) = true)
    (a12 : PySem.W.nsIn K mainGlobals "follow" = some (some (.ref f12))) (l12 : K.lookup f12 = some ⟨oc12, od12, .func (PySem.W.fnOf "follow" "follow" (defArgs s_follow) (defBody s_follow) (defScope s_follow) .none kV12 dc12 pm12 an12 cd12 ct12), sl12⟩) (c12 : PySem.W.codeIn K cd12 "follow" = true) (k12 : PySem.W.keepIn K (.ref f12) = true)
    (a13 : PySem.W.nsIn K mainGlobals "ask_marks" = some (some (.ref f13))) (l13 : K.lookup f13 = some ⟨oc13, od13, .func (PySem.W.fnOf "ask_marks" "ask_marks" (defArgs s_ask_marks) (defBody s_ask_marks) (defScope s_ask_marks) .none kV13 dc13 pm13 an13 cd13 ct13), sl13⟩) (c13 : PySem.W.codeIn K cd13 "ask_marks" = true) (k13 : PySem.W.keepIn K (.ref f13) = true)
    (a14 : PySem.W.nsIn K mainGlobals "ask_rooms" = some (some (.ref f14))) (l14 : K.lookup f14 = some ⟨oc14, od14, .func (PySem.W.fnOf "ask_rooms" "ask_rooms" (defArgs s_ask_rooms) (defBody s_ask_rooms) (defScope s_ask_rooms) .none kV14 dc14 pm14 an14 cd14 ct14), sl14⟩) (c14 : PySem.W.codeIn K cd14 "ask_rooms" = true) (k14 : PySem.W.keepIn K (.ref f14) = true)
    (a15 : PySem.W.nsIn K mainGlobals "ask_fair" = some (some (.ref f15))) (l15 : K.lookup f15 = some ⟨oc15, od15, .func (PySem.W.fnOf "ask_fair" "ask_fair" (defArgs s_ask_fair) (defBody s_ask_fair) (defScope s_ask_fair) .none kV15 dc15 pm15 an15 cd15 ct15), sl15⟩) (c15 : PySem.W.codeIn K cd15 "ask_fair" = true) (k15 : PySem.W.keepIn K (.ref f15) = true)
    (a16 : PySem.W.nsIn K mainGlobals "inner" = some (some (.ref f16))) (l16 : K.lookup f16 = some ⟨oc16, od16, .func (PySem.W.fnOf "inner" "inner" (defArgs s_inner) (defBody s_inner) (defScope s_inner) .none kV16 dc16 pm16 an16 cd16 ct16), sl16⟩) (c16 : PySem.W.codeIn K cd16 "inner" = true) (k16 : PySem.W.keepIn K (.ref f16) = true)
    (a17 : PySem.W.nsIn K mainGlobals "leading" = some (some (.ref f17))) (l17 : K.lookup f17 = some ⟨oc17, od17, .func (PySem.W.fnOf "leading" "leading" (defArgs s_leading) (defBody s_leading) (defScope s_leading) .none kV17 dc17 pm17 an17 cd17 ct17), sl17⟩) (c17 : PySem.W.codeIn K cd17 "leading" = true) (k17 : PySem.W.keepIn K (.ref f17) = true)
    (a18 : PySem.W.nsIn K mainGlobals "taken_off" = some (some (.ref f18))) (l18 : K.lookup f18 = some ⟨oc18, od18, .func (PySem.W.fnOf "taken_off" "taken_off" (defArgs s_taken_off) (defBody s_taken_off) (defScope s_taken_off) .none kV18 dc18 pm18 an18 cd18 ct18), sl18⟩) (c18 : PySem.W.codeIn K cd18 "taken_off" = true) (k18 : PySem.W.keepIn K (.ref f18) = true)
    (a19 : PySem.W.nsIn K mainGlobals "fair_rooms" = some (some (.ref f19))) (l19 : K.lookup f19 = some ⟨oc19, od19, .func (PySem.W.fnOf "fair_rooms" "fair_rooms" (defArgs s_fair_rooms) (defBody s_fair_rooms) (defScope s_fair_rooms) .none kV19 dc19 pm19 an19 cd19 ct19), sl19⟩) (c19 : PySem.W.codeIn K cd19 "fair_rooms" = true) (k19 : PySem.W.keepIn K (.ref f19) = true)
    (a20 : PySem.W.nsIn K mainGlobals "ask_game" = some (some (.ref f20))) (l20 : K.lookup f20 = some ⟨oc20, od20, .func (PySem.W.fnOf "ask_game" "ask_game" (defArgs s_ask_game) (defBody s_ask_game) (defScope s_ask_game) .none kV20 dc20 pm20 an20 cd20 ct20), sl20⟩) (c20 : PySem.W.codeIn K cd20 "ask_game" = true) (k20 : PySem.W.keepIn K (.ref f20) = true)
    (a21 : PySem.W.nsIn K mainGlobals "can_now" = some (some (.ref f21))) (l21 : K.lookup f21 = some ⟨oc21, od21, .func (PySem.W.fnOf "can_now" "can_now" (defArgs s_can_now) (defBody s_can_now) (defScope s_can_now) .none kV21 dc21 pm21 an21 cd21 ct21), sl21⟩) (c21 : PySem.W.codeIn K cd21 "can_now" = true) (k21 : PySem.W.keepIn K (.ref f21) = true)
    (a22 : PySem.W.nsIn K mainGlobals "brought" = some (some (.ref f22))) (l22 : K.lookup f22 = some ⟨oc22, od22, .func (PySem.W.fnOf "brought" "brought" (defArgs s_brought) (defBody s_brought) (defScope s_brought) .none kV22 dc22 pm22 an22 cd22 ct22), sl22⟩) (c22 : PySem.W.codeIn K cd22 "brought" = true) (k22 : PySem.W.keepIn K (.ref f22) = true)
    (a23 : PySem.W.nsIn K mainGlobals "downwards" = some (some (.ref f23))) (l23 : K.lookup f23 = some ⟨oc23, od23, .func (PySem.W.fnOf "downwards" "downwards" (defArgs s_downwards) (defBody s_downwards) (defScope s_downwards) .none kV23 dc23 pm23 an23 cd23 ct23), sl23⟩) (c23 : PySem.W.codeIn K cd23 "downwards" = true) (k23 : PySem.W.keepIn K (.ref f23) = true)
    (a24 : PySem.W.nsIn K mainGlobals "bring" = some (some (.ref f24))) (l24 : K.lookup f24 = some ⟨oc24, od24, .func (PySem.W.fnOf "bring" "bring" (defArgs s_bring) (defBody s_bring) (defScope s_bring) .none kV24 dc24 pm24 an24 cd24 ct24), sl24⟩) (c24 : PySem.W.codeIn K cd24 "bring" = true) (k24 : PySem.W.keepIn K (.ref f24) = true)
    (a25 : PySem.W.nsIn K mainGlobals "beyond" = some (some (.ref f25))) (l25 : K.lookup f25 = some ⟨oc25, od25, .func (PySem.W.fnOf "beyond" "beyond" (defArgs s_beyond) (defBody s_beyond) (defScope s_beyond) .none kV25 dc25 pm25 an25 cd25 ct25), sl25⟩) (c25 : PySem.W.codeIn K cd25 "beyond" = true) (k25 : PySem.W.keepIn K (.ref f25) = true)
    (a26 : PySem.W.nsIn K mainGlobals "keep" = some (some (.ref f26))) (l26 : K.lookup f26 = some ⟨oc26, od26, .func (PySem.W.fnOf "keep" "keep" (defArgs s_keep) (defBody s_keep) (defScope s_keep) .none kV26 dc26 pm26 an26 cd26 ct26), sl26⟩) (c26 : PySem.W.codeIn K cd26 "keep" = true) (k26 : PySem.W.keepIn K (.ref f26) = true)
    (a27 : PySem.W.nsIn K mainGlobals "shut_out" = some (some (.ref f27))) (l27 : K.lookup f27 = some ⟨oc27, od27, .func (PySem.W.fnOf "shut_out" "shut_out" (defArgs s_shut_out) (defBody s_shut_out) (defScope s_shut_out) .none kV27 dc27 pm27 an27 cd27 ct27), sl27⟩) (c27 : PySem.W.codeIn K cd27 "shut_out" = true) (k27 : PySem.W.keepIn K (.ref f27) = true)
    (a28 : PySem.W.nsIn K mainGlobals "plan_by" = some (some (.ref f28))) (l28 : K.lookup f28 = some ⟨oc28, od28, .func (PySem.W.fnOf "plan_by" "plan_by" (defArgs s_plan_by) (defBody s_plan_by) (defScope s_plan_by) .none kV28 dc28 pm28 an28 cd28 ct28), sl28⟩) (c28 : PySem.W.codeIn K cd28 "plan_by" = true) (k28 : PySem.W.keepIn K (.ref f28) = true)
    (a29 : PySem.W.nsIn K mainGlobals "turned_to" = some (some (.ref f29))) (l29 : K.lookup f29 = some ⟨oc29, od29, .func (PySem.W.fnOf "turned_to" "turned_to" (defArgs s_turned_to) (defBody s_turned_to) (defScope s_turned_to) .none kV29 dc29 pm29 an29 cd29 ct29), sl29⟩) (c29 : PySem.W.codeIn K cd29 "turned_to" = true) (k29 : PySem.W.keepIn K (.ref f29) = true)
    (a30 : PySem.W.nsIn K mainGlobals "counter_by" = some (some (.ref f30))) (l30 : K.lookup f30 = some ⟨oc30, od30, .func (PySem.W.fnOf "counter_by" "counter_by" (defArgs s_counter_by) (defBody s_counter_by) (defScope s_counter_by) .none kV30 dc30 pm30 an30 cd30 ct30), sl30⟩) (c30 : PySem.W.codeIn K cd30 "counter_by" = true) (k30 : PySem.W.keepIn K (.ref f30) = true)
    (a31 : PySem.W.nsIn K mainGlobals "again" = some (some (.ref f31))) (l31 : K.lookup f31 = some ⟨oc31, od31, .func (PySem.W.fnOf "again" "again" (defArgs s_again) (defBody s_again) (defScope s_again) .none kV31 dc31 pm31 an31 cd31 ct31), sl31⟩) (c31 : PySem.W.codeIn K cd31 "again" = true) (k31 : PySem.W.keepIn K (.ref f31) = true)
    (a32 : PySem.W.nsIn K mainGlobals "is_way" = some (some (.ref f32))) (l32 : K.lookup f32 = some ⟨oc32, od32, .func (PySem.W.fnOf "is_way" "is_way" (defArgs s_is_way) (defBody s_is_way) (defScope s_is_way) .none kV32 dc32 pm32 an32 cd32 ct32), sl32⟩) (c32 : PySem.W.codeIn K cd32 "is_way" = true) (k32 : PySem.W.keepIn K (.ref f32) = true)
    (a33 : PySem.W.nsIn K mainGlobals "ask_way" = some (some (.ref f33))) (l33 : K.lookup f33 = some ⟨oc33, od33, .func (PySem.W.fnOf "ask_way" "ask_way" (defArgs s_ask_way) (defBody s_ask_way) (defScope s_ask_way) .none kV33 dc33 pm33 an33 cd33 ct33), sl33⟩) (c33 : PySem.W.codeIn K cd33 "ask_way" = true) (k33 : PySem.W.keepIn K (.ref f33) = true)
    (a34 : PySem.W.nsIn K mainGlobals "way_is_fair" = some (some (.ref f34))) (l34 : K.lookup f34 = some ⟨oc34, od34, .func (PySem.W.fnOf "way_is_fair" "way_is_fair" (defArgs s_way_is_fair) (defBody s_way_is_fair) (defScope s_way_is_fair) .none kV34 dc34 pm34 an34 cd34 ct34), sl34⟩) (c34 : PySem.W.codeIn K cd34 "way_is_fair" = true) (k34 : PySem.W.keepIn K (.ref f34) = true)
    (a35 : PySem.W.nsIn K mainGlobals "marked" = some (some (.ref f35))) (l35 : K.lookup f35 = some ⟨oc35, od35, .func (PySem.W.fnOf "marked" "marked" (defArgs s_marked) (defBody s_marked) (defScope s_marked) .none kV35 dc35 pm35 an35 cd35 ct35), sl35⟩) (c35 : PySem.W.codeIn K cd35 "marked" = true) (k35 : PySem.W.keepIn K (.ref f35) = true)
    (a36 : PySem.W.nsIn K mainGlobals "ask_room" = some (some (.ref f36))) (l36 : K.lookup f36 = some ⟨oc36, od36, .func (PySem.W.fnOf "ask_room" "ask_room" (defArgs s_ask_room) (defBody s_ask_room) (defScope s_ask_room) .none kV36 dc36 pm36 an36 cd36 ct36), sl36⟩) (c36 : PySem.W.codeIn K cd36 "ask_room" = true) (k36 : PySem.W.keepIn K (.ref f36) = true)
    (a37 : PySem.W.nsIn K mainGlobals "walk_to" = some (some (.ref f37))) (l37 : K.lookup f37 = some ⟨oc37, od37, .func (PySem.W.fnOf "walk_to" "walk_to" (defArgs s_walk_to) (defBody s_walk_to) (defScope s_walk_to) .none kV37 dc37 pm37 an37 cd37 ct37), sl37⟩) (c37 : PySem.W.codeIn K cd37 "walk_to" = true) (k37 : PySem.W.keepIn K (.ref f37) = true)
    (a38 : PySem.W.nsIn K mainGlobals "reach_of" = some (some (.ref f38))) (l38 : K.lookup f38 = some ⟨oc38, od38, .func (PySem.W.fnOf "reach_of" "reach_of" (defArgs s_reach_of) (defBody s_reach_of) (defScope s_reach_of) .none kV38 dc38 pm38 an38 cd38 ct38), sl38⟩) (c38 : PySem.W.codeIn K cd38 "reach_of" = true) (k38 : PySem.W.keepIn K (.ref f38) = true)
    (a39 : PySem.W.nsIn K mainGlobals "fair_way" = some (some (.ref f39))) (l39 : K.lookup f39 = some ⟨oc39, od39, .func (PySem.W.fnOf "fair_way" "fair_way" (defArgs s_fair_way) (defBody s_fair_way) (defScope s_fair_way) .none kV39 dc39 pm39 an39 cd39 ct39), sl39⟩) (c39 : PySem.W.codeIn K cd39 "fair_way" = true) (k39 : PySem.W.keepIn K (.ref f39) = true)
    (a40 : PySem.W.nsIn K mainGlobals "law" = some (some (.ref f40))) (l40 : K.lookup f40 = some ⟨oc40, od40, .func (PySem.W.fnOf "law" "law" (defArgs s_law) (defBody s_law) (defScope s_law) .none kV40 dc40 pm40 an40 cd40 ct40), sl40⟩) (c40 : PySem.W.codeIn K cd40 "law" = true) (k40 : PySem.W.keepIn K (.ref f40) = true)
    (zlen : PySem.W.nsIn K mainGlobals "len" = some none) (zrange : PySem.W.nsIn K mainGlobals "range" = some none) (zall : PySem.W.nsIn K mainGlobals "all" = some none) (zlist : PySem.W.nsIn K mainGlobals "list" = some none) (zsorted : PySem.W.nsIn K mainGlobals "sorted" = some none) (zzip : PySem.W.nsIn K mainGlobals "zip" = some none) (zmin : PySem.W.nsIn K mainGlobals "min" = some none) (zint : PySem.W.nsIn K mainGlobals "int" = some none) (zm : PySem.W.nsIn K mainGlobals "MOST_ROOMS" = some (some (.int 24 t1))) (zl : PySem.W.nsIn K mainGlobals "LETTERS" = some (some (.str "abcdef" t2))) :
    ∃ fd : FuncData, (∀ (s : Shared) (v : Value), BindsTo s fd ⟨[v], []⟩ [("script", v)]) ∧ ∀ base : Heap, K.In base → base.Ns mainGlobals mg → FnOk l.prog w K mg base CX0 8 fa fd ["script"] (spLaw K) := by
  have e := hfa.symm.trans (PySem.W.mg_of X G a40)
  cases e
  have T : Txt K mg := ⟨PySem.W.mg_none_of X G zlen, PySem.W.mg_none_of X G zrange, PySem.W.mg_none_of X G zall, PySem.W.mg_none_of X G zlist, PySem.W.mg_none_of X G zsorted, PySem.W.mg_none_of X G zzip, PySem.W.mg_none_of X G zmin, PySem.W.mg_none_of X G zint, ⟨_, PySem.W.mg_of X G zm⟩, ⟨_, PySem.W.mg_of X G zl⟩⟩
  refine ⟨PySem.W.fnOf "law" "law" (defArgs s_law) (defBody s_law) (defScope s_law) .none kV40 dc40 pm40 an40 cd40 ct40, fun s v => .of_eq rfl, fun base _ _ => ?_⟩
  have d_law_cell_at : Dk l.prog w K mg base "_law_cell_at" ["script", "k"] 1 (spCell K) := dk_law_cell_at T (fun_mk (st := s_law_cell_at) l0 c0 k0) (PySem.W.mg_of X G a0)
  have d_law_draw : Dk l.prog w K mg base "_law_draw" ["cell", "k", "bound"] 1 spDraw := dk_law_draw T (fun_mk (st := s_law_draw) l1 c1 k1) (PySem.W.mg_of X G a1)
  have d_law_world : Dk l.prog w K mg base "_law_world" ["script", "at", "most"] 2 (spLawWorld K) := dk_law_world T (fun_mk (st := s_law_world) l2 c2 k2) (PySem.W.mg_of X G a2) d_law_cell_at d_law_draw
  have d_law_rooms : Dk l.prog w K mg base "_law_rooms" ["cell", "many"] 2 spLawRooms := dk_law_rooms T (fun_mk (st := s_law_rooms) l3 c3 k3) (PySem.W.mg_of X G a3) d_law_draw
  have d_rises : Dk l.prog w K mg base "rises" ["some"] 1 spRises := dk_rises T (fun_mk (st := s_rises) l4 c4 k4) (PySem.W.mg_of X G a4)
  have d_are_marks : Dk l.prog w K mg base "are_marks" ["marks"] 2 spAreMarks := dk_are_marks T (fun_mk (st := s_are_marks) l5 c5 k5) (PySem.W.mg_of X G a5) d_rises
  have d_are_rooms : Dk l.prog w K mg base "are_rooms" ["rooms", "many"] 2 spAreRooms := dk_are_rooms T (fun_mk (st := s_are_rooms) l6 c6 k6) (PySem.W.mg_of X G a6) d_rises
  have d_is_world : Dk l.prog w K mg base "is_world" ["owners", "marks", "steps"] 3 spIsWorld := dk_is_world T (fun_mk (st := s_is_world) l7 c7 k7) (PySem.W.mg_of X G a7) d_are_marks d_are_rooms
  have d_ask_world : Dk l.prog w K mg base "ask_world" ["world"] 4 spAskWorld := dk_ask_world T (fun_mk (st := s_ask_world) l8 c8 k8) (PySem.W.mg_of X G a8) d_is_world
  have d_ask_player : Dk l.prog w K mg base "ask_player" ["player"] 1 spAskPlayer := dk_ask_player T (fun_mk (st := s_ask_player) l9 c9 k9) (PySem.W.mg_of X G a9)
  have d_is_plan : Dk l.prog w K mg base "is_plan" ["world", "player", "plan"] 5 spIsPlan := dk_is_plan T (fun_mk (st := s_is_plan) l10 c10 k10) (PySem.W.mg_of X G a10) d_ask_world d_ask_player
  have d_ask_plan : Dk l.prog w K mg base "ask_plan" ["world", "player", "plan"] 6 spAskPlan := dk_ask_plan T (fun_mk (st := s_ask_plan) l11 c11 k11) (PySem.W.mg_of X G a11) d_is_plan
  have d_follow : Dk l.prog w K mg base "follow" ["world", "player", "plan"] 7 spFollow := dk_follow T (fun_mk (st := s_follow) l12 c12 k12) (PySem.W.mg_of X G a12) d_ask_plan
  have d_ask_marks : Dk l.prog w K mg base "ask_marks" ["marks"] 3 spAskMarks := dk_ask_marks T (fun_mk (st := s_ask_marks) l13 c13 k13) (PySem.W.mg_of X G a13) d_are_marks
  have d_ask_rooms : Dk l.prog w K mg base "ask_rooms" ["world", "rooms"] 3 spAskRooms := dk_ask_rooms T (fun_mk (st := s_ask_rooms) l14 c14 k14) (PySem.W.mg_of X G a14) d_are_rooms
  have d_ask_fair : Dk l.prog w K mg base "ask_fair" ["world", "rooms", "marks"] 5 spAskFair := dk_ask_fair T (fun_mk (st := s_ask_fair) l15 c15 k15) (PySem.W.mg_of X G a15) d_ask_world d_ask_marks d_ask_rooms
  have d_inner : Dk l.prog w K mg base "inner" ["world", "rooms"] 1 spInner := dk_inner T (fun_mk (st := s_inner) l16 c16 k16) (PySem.W.mg_of X G a16)
  have d_leading : Dk l.prog w K mg base "leading" ["steps", "kept", "goal"] 1 spLeading := dk_leading T (fun_mk (st := s_leading) l17 c17 k17) (PySem.W.mg_of X G a17)
  have d_taken_off : Dk l.prog w K mg base "taken_off" ["world", "rooms", "marks"] 2 spTaken := dk_taken_off T (fun_mk (st := s_taken_off) l18 c18 k18) (PySem.W.mg_of X G a18) d_inner d_leading
  have d_fair_rooms : Dk l.prog w K mg base "fair_rooms" ["world", "rooms", "marks"] 6 spFairRooms := dk_fair_rooms T (fun_mk (st := s_fair_rooms) l19 c19 k19) (PySem.W.mg_of X G a19) d_ask_fair d_taken_off
  have d_ask_game : Dk l.prog w K mg base "ask_game" ["world", "player", "rooms"] 5 spAskGame := dk_ask_game T (fun_mk (st := s_ask_game) l20 c20 k20) (PySem.W.mg_of X G a20) d_ask_world d_ask_player d_ask_rooms
  have d_can_now : Dk l.prog w K mg base "can_now" ["world", "player", "room", "known"] 1 spCanNow := dk_can_now T (fun_mk (st := s_can_now) l21 c21 k21) (PySem.W.mg_of X G a21)
  have d_brought : Dk l.prog w K mg base "brought" ["world", "player", "rooms", "within", "had"] 2 spBrought := dk_brought T (fun_mk (st := s_brought) l22 c22 k22) (PySem.W.mg_of X G a22) d_can_now
  have d_downwards : Dk l.prog w K mg base "downwards" ["world", "player", "ranks"] 1 spDownwards := dk_downwards T (fun_mk (st := s_downwards) l23 c23 k23) (PySem.W.mg_of X G a23)
  have d_bring : Dk l.prog w K mg base "bring" ["world", "player", "rooms"] 6 spBring := dk_bring T (fun_mk (st := s_bring) l24 c24 k24) (PySem.W.mg_of X G a24) d_ask_game d_brought d_downwards
  have d_beyond : Dk l.prog w K mg base "beyond" ["world", "rooms"] 1 spBeyond := dk_beyond T (fun_mk (st := s_beyond) l25 c25 k25) (PySem.W.mg_of X G a25)
  have d_keep : Dk l.prog w K mg base "keep" ["world", "player", "rooms"] 7 spKeep := dk_keep T (fun_mk (st := s_keep) l26 c26 k26) (PySem.W.mg_of X G a26) d_ask_game d_bring d_beyond
  have d_shut_out : Dk l.prog w K mg base "shut_out" ["world", "player", "rooms", "left"] 3 spShutOut := dk_shut_out T (fun_mk (st := s_shut_out) l27 c27 k27) (PySem.W.mg_of X G a27) d_brought
  have d_plan_by : Dk l.prog w K mg base "plan_by" ["world", "player", "ranks"] 1 spPlanBy := dk_plan_by T (fun_mk (st := s_plan_by) l28 c28 k28) (PySem.W.mg_of X G a28)
  have d_turned_to : Dk l.prog w K mg base "turned_to" ["turns", "there", "room"] 1 spTurnedTo := dk_turned_to T (fun_mk (st := s_turned_to) l29 c29 k29) (PySem.W.mg_of X G a29)
  have d_counter_by : Dk l.prog w K mg base "counter_by" ["world", "other", "turns"] 2 spCounterBy := dk_counter_by T (fun_mk (st := s_counter_by) l30 c30 k30) (PySem.W.mg_of X G a30) d_turned_to
  have d_again : Dk l.prog w K mg base "again" ["world", "player", "rooms"] 6 spAgain := dk_again T (fun_mk (st := s_again) l31 c31 k31) (PySem.W.mg_of X G a31) d_ask_game d_shut_out d_plan_by d_counter_by
  have d_is_way : Dk l.prog w K mg base "is_way" ["world", "way"] 5 spIsWay := dk_is_way T (fun_mk (st := s_is_way) l32 c32 k32) (PySem.W.mg_of X G a32) d_ask_world
  have d_ask_way : Dk l.prog w K mg base "ask_way" ["world", "way"] 6 spAskWay := dk_ask_way T (fun_mk (st := s_ask_way) l33 c33 k33) (PySem.W.mg_of X G a33) d_is_way
  have d_way_is_fair : Dk l.prog w K mg base "way_is_fair" ["world", "rooms", "marks", "way"] 7 spWayIsFair := dk_way_is_fair T (fun_mk (st := s_way_is_fair) l34 c34 k34) (PySem.W.mg_of X G a34) d_ask_fair d_ask_way
  have d_marked : Dk l.prog w K mg base "marked" ["world", "mark"] 5 spMarked := dk_marked T (fun_mk (st := s_marked) l35 c35 k35) (PySem.W.mg_of X G a35) d_ask_world d_ask_marks
  have d_ask_room : Dk l.prog w K mg base "ask_room" ["world", "room"] 1 spAskRoom := dk_ask_room T (fun_mk (st := s_ask_room) l36 c36 k36) (PySem.W.mg_of X G a36)
  have d_walk_to : Dk l.prog w K mg base "walk_to" ["steps", "room", "goal"] 1 spWalkTo := dk_walk_to T (fun_mk (st := s_walk_to) l37 c37 k37) (PySem.W.mg_of X G a37)
  have d_reach_of : Dk l.prog w K mg base "reach_of" ["steps", "room"] 1 spReach := dk_reach_of T (fun_mk (st := s_reach_of) l38 c38 k38) (PySem.W.mg_of X G a38)
  have d_fair_way : Dk l.prog w K mg base "fair_way" ["world", "rooms", "marks", "room"] 7 spFairWay := dk_fair_way T (fun_mk (st := s_fair_way) l39 c39 k39) (PySem.W.mg_of X G a39) d_fair_rooms d_ask_room d_inner d_walk_to d_reach_of
  exact ok_law T (fun_mk (st := s_law) l40 c40 k40) d_law_world d_law_draw d_law_rooms d_follow d_fair_rooms d_law_cell_at d_keep d_again d_way_is_fair d_marked d_fair_way
end FH
open PySem PySem.W PyProof.Rows
set_option maxHeartbeats 0 in
theorem PySem.Challenge.cw_foreseehall_k92_whole_from_keeping_to_fa_holds : PySem.Challenge.rw_foreseehall_k92_whole_from_keeping_to_fa.Holds := by
  w_on; o_law; k_head; (case hw => w_witness2)
  k_fill
  refine L2.walk_of (l := PySem.Challenge.rw_foreseehall_k92_whole_from_keeping_to_fa) (n := 63) (k := 8) (x := "script") (CX := fun _ => L2.CX0) (sp := fun w => FH.spLaw _) rfl (by decide) rfl ⟨rfl, by decide, by decide⟩ (fun w h Y => PySem.W.kIn_of Y) ?F (fun _ _ a ns hl _ hS => ⟨a, ns, rfl, hS, hl, fun _ => rfl⟩) (fun _ _ _ _ _ h => h)
  case F =>
    intro w mg fa h KX G hmg
    refine' FH.all_mk KX G hmg ?a0 ?l0 ?c0 ?k0 ?a1 ?l1 ?c1 ?k1 ?a2 ?l2 ?c2 ?k2 ?a3 ?l3 ?c3 ?k3 ?a4 ?l4 ?c4 ?k4 ?a5 ?l5 ?c5 ?k5 ?a6 ?l6 ?c6 ?k6 ?a7 ?l7 ?c7 ?k7 ?a8 ?l8 ?c8 ?k8 ?a9 ?l9 ?c9 ?k9 ?a10 ?l10 ?c10 ?k10 ?a11 ?l11 ?c11 ?k11 ?a12 ?l12 ?c12 ?k12 ?a13 ?l13 ?c13 ?k13 ?a14 ?l14 ?c14 ?k14 ?a15 ?l15 ?c15 ?k15 ?a16 ?l16 ?c16 ?k16 ?a17 ?l17 ?c17 ?k17 ?a18 ?l18 ?c18 ?k18 ?a19 ?l19 ?c19 ?k19 ?a20 ?l20 ?c20 ?k20 ?a21 ?l21 ?c21 ?k21 ?a22 ?l22 ?c22 ?k22 ?a23 ?l23 ?c23 ?k23 ?a24 ?l24 ?c24 ?k24 ?a25 ?l25 ?c25 ?k25 ?a26 ?l26 ?c26 ?k26 ?a27 ?l27 ?c27 ?k27 ?a28 ?l28 ?c28 ?k28 ?a29 ?l29 ?c29 ?k29 ?a30 ?l30 ?c30 ?k30 ?a31 ?l31 ?c31 ?k31 ?a32 ?l32 ?c32 ?k32 ?a33 ?l33 ?c33 ?k33 ?a34 ?l34 ?c34 ?k34 ?a35 ?l35 ?c35 ?k35 ?a36 ?l36 ?c36 ?k36 ?a37 ?l37 ?c37 ?k37 ?a38 ?l38 ?c38 ?k38 ?a39 ?l39 ?c39 ?k39 ?a40 ?l40 ?c40 ?k40 ?zlen ?zrange ?zall ?zlist ?zsorted ?zzip ?zmin ?zint ?zm ?zl
    (case a0 => k_is); (case l0 => k_is); (case c0 => k_is); (case k0 => k_is); (case a1 => k_is); (case l1 => k_is); (case c1 => k_is); (case k1 => k_is)
    (case a2 => k_is); (case l2 => k_is); (case c2 => k_is); (case k2 => k_is); (case a3 => k_is); (case l3 => k_is); (case c3 => k_is); (case k3 => k_is)
    (case a4 => k_is); (case l4 => k_is); (case c4 => k_is); (case k4 => k_is); (case a5 => k_is); (case l5 => k_is); (case c5 => k_is); (case k5 => k_is)
    (case a6 => k_is); (case l6 => k_is); (case c6 => k_is); (case k6 => k_is); (case a7 => k_is); (case l7 => k_is); (case c7 => k_is); (case k7 => k_is)
    (case a8 => k_is); (case l8 => k_is); (case c8 => k_is); (case k8 => k_is); (case a9 => k_is); (case l9 => k_is); (case c9 => k_is); (case k9 => k_is)
    (case a10 => k_is); (case l10 => k_is); (case c10 => k_is); (case k10 => k_is); (case a11 => k_is); (case l11 => k_is); (case c11 => k_is); (case k11 => k_is)
    (case a12 => k_is); (case l12 => k_is); (case c12 => k_is); (case k12 => k_is); (case a13 => k_is); (case l13 => k_is); (case c13 => k_is); (case k13 => k_is)
    (case a14 => k_is); (case l14 => k_is); (case c14 => k_is); (case k14 => k_is); (case a15 => k_is); (case l15 => k_is); (case c15 => k_is); (case k15 => k_is)
    (case a16 => k_is); (case l16 => k_is); (case c16 => k_is); (case k16 => k_is); (case a17 => k_is); (case l17 => k_is); (case c17 => k_is); (case k17 => k_is)
    (case a18 => k_is); (case l18 => k_is); (case c18 => k_is); (case k18 => k_is); (case a19 => k_is); (case l19 => k_is); (case c19 => k_is); (case k19 => k_is)
    (case a20 => k_is); (case l20 => k_is); (case c20 => k_is); (case k20 => k_is); (case a21 => k_is); (case l21 => k_is); (case c21 => k_is); (case k21 => k_is)
    (case a22 => k_is); (case l22 => k_is); (case c22 => k_is); (case k22 => k_is); (case a23 => k_is); (case l23 => k_is); (case c23 => k_is); (case k23 => k_is)
    (case a24 => k_is); (case l24 => k_is); (case c24 => k_is); (case k24 => k_is); (case a25 => k_is); (case l25 => k_is); (case c25 => k_is); (case k25 => k_is)
    (case a26 => k_is); (case l26 => k_is); (case c26 => k_is); (case k26 => k_is); (case a27 => k_is); (case l27 => k_is); (case c27 => k_is); (case k27 => k_is)
    (case a28 => k_is); (case l28 => k_is); (case c28 => k_is); (case k28 => k_is); (case a29 => k_is); (case l29 => k_is); (case c29 => k_is); (case k29 => k_is)
    (case a30 => k_is); (case l30 => k_is); (case c30 => k_is); (case k30 => k_is); (case a31 => k_is); (case l31 => k_is); (case c31 => k_is); (case k31 => k_is)
    (case a32 => k_is); (case l32 => k_is); (case c32 => k_is); (case k32 => k_is); (case a33 => k_is); (case l33 => k_is); (case c33 => k_is); (case k33 => k_is)
    (case a34 => k_is); (case l34 => k_is); (case c34 => k_is); (case k34 => k_is); (case a35 => k_is); (case l35 => k_is); (case c35 => k_is); (case k35 => k_is)
    (case a36 => k_is); (case l36 => k_is); (case c36 => k_is); (case k36 => k_is); (case a37 => k_is); (case l37 => k_is); (case c37 => k_is); (case k37 => k_is)
    (case a38 => k_is); (case l38 => k_is); (case c38 => k_is); (case k38 => k_is); (case a39 => k_is); (case l39 => k_is); (case c39 => k_is); (case k39 => k_is)
    (case a40 => k_is); (case l40 => k_is); (case c40 => k_is); (case k40 => k_is); (case zlen => k_is); (case zrange => k_is); (case zall => k_is); (case zlist => k_is)
    (case zsorted => k_is); (case zzip => k_is); (case zmin => k_is); (case zint => k_is); (case zm => k_is); (case zl => k_is)
