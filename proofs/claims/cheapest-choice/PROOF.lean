import PyProof.Rows.All
import Wide.All
import OpenK.AllK
import Wide.FinOn
import HandS.ForMost
import HandS.Walk
import HandS.Zip
import KE.GoesEnum
import HandS.Wide
import HandS.Deep
import HandS.IsInst
import HandS.DictComp
import PySem.Challenge.RW_signoff_k82_whole_cheapest_choice
set_option Elab.async false
set_option linter.all false
set_option maxRecDepth 100000
set_option maxHeartbeats 4000000
namespace Sg

def IsMax (l : List Int) (o : Option Int) : Prop := (l = [] ∧ o = none) ∨ ∃ m, m ∈ l ∧ (∀ y, y ∈ l → y ≤ m) ∧ o = some m
def LeO (a b : Option Int) : Prop := (a = none ∧ b = none) ∨ ∃ x y, a = some x ∧ b = some y ∧ x ≤ y
theorem LeO.refl (a : Option Int) : LeO a a := by
  cases a with
  | none => exact .inl ⟨rfl, rfl⟩
  | some x => exact .inr ⟨x, x, rfl, rfl, Int.le_refl x⟩

section
variable {ν : Type}
def sums (t : ν → Option Int) (nets : List ν) (h : List Int) : List Int := (nets.zip h).filterMap fun p => (t p.1).map (· + p.2)
theorem sums_nil (t : ν → Option Int) (h : List Int) : sums t [] h = [] := rfl
theorem sums_cons (t : ν → Option Int) (n : ν) (ns : List ν) (x : Int) (h : List Int) :
    sums t (n :: ns) (x :: h) = (match t n with | none => sums t ns h | some a => (a + x) :: sums t ns h) := by
  unfold sums
  rw [List.zip_cons_cons, List.filterMap_cons]
  cases t n <;> rfl

def LeL : List Int → List Int → Prop
  | [], [] => True
  | a :: l, b :: m => a ≤ b ∧ LeL l m
  | _, _ => False
theorem LeL.refl : ∀ l : List Int, LeL l l
  | [] => trivial
  | a :: l => ⟨Int.le_refl a, LeL.refl l⟩
theorem LeL.len : ∀ {l m : List Int}, LeL l m → l.length = m.length
  | [], [], _ => rfl
  | _ :: _, _ :: _, h => by simp [LeL.len h.2]
  | [], _ :: _, h => h.elim
  | _ :: _, [], h => h.elim
def LeLL : List (List Int) → List (List Int) → Prop
  | [], [] => True
  | a :: l, b :: m => LeL a b ∧ LeLL l m
  | _, _ => False
theorem LeLL.refl : ∀ l : List (List Int), LeLL l l
  | [] => trivial
  | a :: l => ⟨LeL.refl a, LeLL.refl l⟩
theorem LeLL.get : ∀ {l m : List (List Int)} {i : Nat} {a : List Int}, LeLL l m → l[i]? = some a → ∃ b, m[i]? = some b ∧ LeL a b
  | [], _, _, _, _, e => by simp at e
  | _ :: _, [], _, _, h, _ => h.elim
  | a :: l, b :: m, 0, _, h, e => by
    simp at e
    subst e
    exact ⟨b, rfl, h.1⟩
  | a :: l, b :: m, i + 1, x, h, e => by
    obtain ⟨b', e', q⟩ := LeLL.get (i := i) (a := x) h.2 (by simpa using e)
    exact ⟨b', by simpa using e', q⟩
theorem LeLL.app : ∀ {l m l' m' : List (List Int)}, LeLL l m → LeLL l' m' → LeLL (l ++ l') (m ++ m')
  | [], [], _, _, _, h => h
  | _ :: _, _ :: _, _, _, h, h' => ⟨h.1, LeLL.app h.2 h'⟩
  | [], _ :: _, _, _, h, _ => h.elim
  | _ :: _, [], _, _, h, _ => h.elim

theorem sums_le {t u : ν → Option Int} : ∀ {nets : List ν} {h k : List Int}, LeL h k → (∀ n ∈ nets, LeO (t n) (u n)) → LeL (sums t nets h) (sums u nets k)
  | [], _, _, _, _ => trivial
  | n :: ns, [], [], _, _ => trivial
  | n :: ns, x :: h, y :: k, hl, hn => by
    have ih := sums_le (nets := ns) hl.2 fun m hm => hn m (List.mem_cons_of_mem _ hm)
    rw [sums_cons, sums_cons]
    rcases hn n List.mem_cons_self with ⟨e1, e2⟩ | ⟨a, b, e1, e2, hab⟩
    · rw [e1, e2]; exact ih
    · rw [e1, e2]
      refine ⟨?_, ih⟩
      have := hl.1
      omega
  | _ :: _, [], _ :: _, h, _ => h.elim
  | _ :: _, _ :: _, [], h, _ => h.elim
theorem LeL.exists : ∀ {l m : List Int} {x : Int}, LeL l m → x ∈ l → ∃ y ∈ m, x ≤ y
  | [], _, _, _, h => by simp at h
  | _ :: _, [], _, h, _ => h.elim
  | a :: l, b :: m, x, h, hx => by
    rcases List.mem_cons.mp hx with e | hx
    · subst e
      exact ⟨b, List.mem_cons_self, h.1⟩
    · obtain ⟨y, hy, q⟩ := LeL.exists h.2 hx
      exact ⟨y, List.mem_cons_of_mem _ hy, q⟩
theorem IsMax.le {l m : List Int} {a b : Option Int} (h : LeL l m) (ha : IsMax l a) (hb : IsMax m b) : LeO a b := by
  rcases ha with ⟨e, ea⟩ | ⟨x, hx, _, ea⟩
  · rcases hb with ⟨f, eb⟩ | ⟨y, hy, _, eb⟩
    · exact .inl ⟨ea, eb⟩
    · have := h.len
      rw [e] at this
      cases m with
      | nil => simp at hy
      | cons _ _ => simp at this
  · rcases hb with ⟨f, eb⟩ | ⟨y, hy, gy, eb⟩
    · have := h.len
      rw [f] at this
      cases l with
      | nil => simp at hx
      | cons _ _ => simp at this
    · obtain ⟨z, hz, q⟩ := h.exists hx
      exact .inr ⟨x, y, ea, eb, Int.le_trans q (gy z hz)⟩

structure Late (srcs : List (ν × Int)) (gs : List (ν × List ν)) (hs : List (List Int)) (t : ν → Option Int) : Prop where
  src : ∀ s l, (s, l) ∈ srcs → t s = some l
  gate : ∀ (i : Nat) g nets h, gs[i]? = some (g, nets) → hs[i]? = some h → IsMax (sums t nets h) (t g)

def Ranked (srcs : List (ν × Int)) (gs : List (ν × List ν)) (r : ν → Nat) : Prop :=
  ∀ g nets, (g, nets) ∈ gs → ∀ n ∈ nets, (∃ l, (n, l) ∈ srcs) ∨ ((∃ ns, (n, ns) ∈ gs) ∧ r n < r g)

theorem late_mono {srcs : List (ν × Int)} {gs : List (ν × List ν)} {r : ν → Nat} {hs ks : List (List Int)} {t u : ν → Option Int} (hr : Ranked srcs gs r) (hl : gs.length ≤ hs.length) (hle : LeLL hs ks)
    (ht : Late srcs gs hs t) (hu : Late srcs gs ks u) : ∀ n, ((∃ l, (n, l) ∈ srcs) ∨ ∃ ns, (n, ns) ∈ gs) → LeO (t n) (u n) := by
  have key : ∀ k n, r n < k → ((∃ l, (n, l) ∈ srcs) ∨ ∃ ns, (n, ns) ∈ gs) → LeO (t n) (u n) := by
    intro k
    induction k with
    | zero => intro n h; exact absurd h (Nat.not_lt_zero _)
    | succ k ih =>
      intro n hn hc
      rcases hc with ⟨l, h⟩ | ⟨ns, h⟩
      · rw [ht.src n l h, hu.src n l h]
        exact LeO.refl _
      · obtain ⟨i, e⟩ := List.getElem?_of_mem h
        have hi : i < hs.length := Nat.lt_of_lt_of_le (List.getElem?_eq_some_iff.mp e).1 hl
        have eh : hs[i]? = some hs[i] := List.getElem?_eq_getElem hi
        obtain ⟨b, eb, q⟩ := hle.get eh
        refine IsMax.le ?_ (ht.gate i n ns _ e eh) (hu.gate i n ns _ e eb)
        refine sums_le q fun m hm => ?_
        rcases hr n ns h m hm with hs' | ⟨hg, hlt⟩
        · obtain ⟨l, hl'⟩ := hs'
          rw [ht.src m l hl', hu.src m l hl']
          exact LeO.refl _
        · exact ih m (by omega) (.inr hg)
  exact fun n hc => key (r n + 1) n (Nat.lt_succ_self _) hc

def Within (lim : List (ν × Int)) (t : ν → Option Int) : Prop := ∀ n l, (n, l) ∈ lim → ∀ v, t n = some v → v ≤ l
def Feas (srcs : List (ν × Int)) (gs : List (ν × List ν)) (lim : List (ν × Int)) (hs : List (List Int)) : Prop := ∃ t, Late srcs gs hs t ∧ Within lim t
theorem feas_mono {srcs : List (ν × Int)} {gs : List (ν × List ν)} {r : ν → Nat} {lim : List (ν × Int)} {hs ks : List (List Int)} {t : ν → Option Int} (hr : Ranked srcs gs r) (hl : gs.length ≤ hs.length) (hle : LeLL hs ks)
    (hn : ∀ n l, (n, l) ∈ lim → ((∃ l, (n, l) ∈ srcs) ∨ ∃ ns, (n, ns) ∈ gs)) (ht : Late srcs gs hs t) (hf : Feas srcs gs lim ks) : Within lim t := by
  obtain ⟨u, hu, hw⟩ := hf
  intro n l hm v hv
  rcases late_mono hr hl hle ht hu n (hn n l hm) with ⟨e, _⟩ | ⟨x, y, e1, e2, q⟩
  · rw [e] at hv; cases hv
  · rw [e1] at hv; cases hv
    exact Int.le_trans q (hw n l hm y e2)
end

def lexLt : List Nat → List Nat → Prop
  | [], [] => False
  | [], _ :: _ => True
  | _ :: _, [] => False
  | a :: l, b :: m => a < b ∨ (a = b ∧ lexLt l m)
theorem lexLt_irrefl : ∀ l : List Nat, ¬ lexLt l l
  | [], h => h
  | a :: l, h => by
    rcases h with h | ⟨_, h⟩
    · exact Nat.lt_irrefl _ h
    · exact lexLt_irrefl l h
theorem lexLt_trans : ∀ {a b c : List Nat}, lexLt a b → lexLt b c → lexLt a c
  | [], [], _, h, _ => h.elim
  | [], _ :: _, [], _, h => h.elim
  | [], _ :: _, _ :: _, _, _ => trivial
  | _ :: _, [], _, h, _ => h.elim
  | _ :: _, _ :: _, [], _, h => h.elim
  | a :: l, b :: m, c :: n, h1, h2 => by
    rcases h1 with h1 | ⟨rfl, h1⟩
    · rcases h2 with h2 | ⟨rfl, _⟩
      · exact .inl (Nat.lt_trans h1 h2)
      · exact .inl h1
    · rcases h2 with h2 | ⟨rfl, h2⟩
      · exact .inl h2
      · exact .inr ⟨rfl, lexLt_trans h1 h2⟩
theorem lexLt_app : ∀ (p : List Nat) {a b : List Nat}, lexLt a b → lexLt (p ++ a) (p ++ b)
  | [], _, _, h => h
  | _ :: p, _, _, h => .inr ⟨rfl, lexLt_app p h⟩
theorem lexLt_fork (p : List Nat) {j k : Nat} (h : j < k) (a b : List Nat) : lexLt (p ++ j :: a) (p ++ k :: b) := lexLt_app p (.inl h)

def leC (c : Int) (b : List Nat) (c' : Int) (b' : List Nat) : Prop := c < c' ∨ (c = c' ∧ (b = b' ∨ lexLt b b'))
theorem leC.refl (c : Int) (b : List Nat) : leC c b c b := .inr ⟨rfl, .inl rfl⟩
theorem leC.trans {c c' c'' : Int} {b b' b'' : List Nat} (h1 : leC c b c' b') (h2 : leC c' b' c'' b'') : leC c b c'' b'' := by
  rcases h1 with h1 | ⟨rfl, h1⟩
  · rcases h2 with h2 | ⟨rfl, _⟩
    · exact .inl (Int.lt_trans h1 h2)
    · exact .inl h1
  · rcases h2 with h2 | ⟨rfl, h2⟩
    · exact .inl h2
    · refine .inr ⟨rfl, ?_⟩
      rcases h1 with rfl | h1
      · exact h2
      · rcases h2 with rfl | h2
        · exact .inr h1
        · exact .inr (lexLt_trans h1 h2)
theorem leC.antisymm {c c' : Int} {b b' : List Nat} (h1 : leC c b c' b') (h2 : leC c' b' c b) : c = c' ∧ b = b' := by
  rcases h1 with h1 | ⟨rfl, h1⟩
  · rcases h2 with h2 | ⟨rfl, _⟩
    · omega
    · omega
  · refine ⟨rfl, ?_⟩
    rcases h2 with h2 | ⟨_, h2⟩
    · omega
    · rcases h1 with rfl | h1
      · rfl
      · rcases h2 with rfl | h2
        · rfl
        · exact absurd (lexLt_trans h1 h2) (lexLt_irrefl _)

abbrev Row := List (Int × List Int)
def Row.cost (r : Row) (k : Nat) : Int := (r.getD k (0, [])).1
def Row.hi (r : Row) (k : Nat) : List Int := (r.getD k (0, [])).2
def Pre : List Row → List Nat → Prop
  | _, [] => True
  | [], _ :: _ => False
  | r :: rs, k :: ks => k < r.length ∧ Pre rs ks
def Full (rs : List Row) (ch : List Nat) : Prop := Pre rs ch ∧ ch.length = rs.length
def costOf : List Row → List Nat → Int
  | r :: rs, k :: ks => r.cost k + costOf rs ks
  | _, _ => 0
def hiOf : List Row → List Nat → List (List Int)
  | r :: rs, k :: ks => r.hi k :: hiOf rs ks
  | _, _ => []
def Useless (r : Row) (k : Nat) : Prop := ∃ j, j < r.length ∧ r.hi j = r.hi k ∧ (r.cost j < r.cost k ∨ (r.cost j = r.cost k ∧ j < k))
def Clean : List Row → List Nat → Prop
  | r :: rs, k :: ks => ¬ Useless r k ∧ Clean rs ks
  | _, _ => True
def Best (rs : List Row) (F : List (List Int) → Prop) : Option (Int × List Nat) → Prop
  | none => ∀ ch, Full rs ch → ¬ F (hiOf rs ch)
  | some (c, b) => Full rs b ∧ F (hiOf rs b) ∧ c = costOf rs b ∧ ∀ ch, Full rs ch → F (hiOf rs ch) → leC c b (costOf rs ch) ch
theorem Best.uniq {rs : List Row} {F : List (List Int) → Prop} : ∀ {o o' : Option (Int × List Nat)}, Best rs F o → Best rs F o' → o = o'
  | none, none, _, _ => rfl
  | none, some (c, b), h, h' => absurd h'.2.1 (h b h'.1)
  | some (c, b), none, h, h' => absurd h.2.1 (h' b h.1)
  | some (c, b), some (c', b'), ⟨f, g, e, h⟩, ⟨f', g', e', h'⟩ => by
    have h1 := h b' f' g'
    have h2 := h' b f g
    rw [← e'] at h1
    rw [← e] at h2
    obtain ⟨rfl, rfl⟩ := leC.antisymm h1 h2
    rfl

theorem clean_one (r : Row) (hc : ∀ k, k < r.length → 0 ≤ r.cost k) : ∀ (m k : Nat), k < r.length → (r.cost k).toNat * (r.length + 1) + k < m →
    ∃ j, j < r.length ∧ ¬ Useless r j ∧ r.hi j = r.hi k ∧ (r.cost j < r.cost k ∨ (r.cost j = r.cost k ∧ j ≤ k)) := by
  intro m
  induction m with
  | zero => intro k _ h; exact absurd h (Nat.not_lt_zero _)
  | succ m ih =>
    intro k hk hm
    by_cases hu : Useless r k
    · obtain ⟨j, hj, hh, hlt⟩ := hu
      have lt : (r.cost j).toNat * (r.length + 1) + j < (r.cost k).toNat * (r.length + 1) + k := by
        rcases hlt with hlt | ⟨e, hlt⟩
        · have h1 := hc j hj
          have h2 : (r.cost j).toNat + 1 ≤ (r.cost k).toNat := by omega
          have h3 := Nat.mul_le_mul_right (r.length + 1) h2
          rw [Nat.add_mul] at h3
          omega
        · rw [e]; omega
      obtain ⟨i, hi, hcl, hh', hle⟩ := ih j hj (by omega)
      refine ⟨i, hi, hcl, hh'.trans hh, ?_⟩
      omega
    · exact ⟨k, hk, hu, rfl, .inr ⟨rfl, Nat.le_refl k⟩⟩
def CostsOk (rs : List Row) : Prop := ∀ r ∈ rs, ∀ k, k < r.length → 0 ≤ r.cost k
theorem clean_ex : ∀ (rs : List Row) (ch : List Nat), CostsOk rs → Pre rs ch → ∃ cl, Pre rs cl ∧ cl.length = ch.length ∧ Clean rs cl ∧ hiOf rs cl = hiOf rs ch ∧ leC (costOf rs cl) cl (costOf rs ch) ch
  | rs, [], _, _ => ⟨[], by cases rs <;> trivial, rfl, by cases rs <;> trivial, rfl, leC.refl _ _⟩
  | [], _ :: _, _, h => h.elim
  | r :: rs, k :: ks, hc, h => by
    obtain ⟨cl, h1, h2, h3, h4, h5⟩ := clean_ex rs ks (fun r' hr' => hc r' (List.mem_cons_of_mem _ hr')) h.2
    obtain ⟨j, hj, hu, hh, hle⟩ := clean_one r (hc r List.mem_cons_self) _ k h.1 (Nat.lt_succ_self _)
    refine ⟨j :: cl, ⟨hj, h1⟩, by simp [h2], ⟨hu, h3⟩, by simp only [hiOf, hh, h4], ?_⟩
    simp only [costOf]
    rcases h5 with h5 | ⟨e, h5⟩
    · rcases hle with hle | ⟨e', hle⟩
      · exact .inl (by omega)
      · exact .inl (by omega)
    · rcases hle with hle | ⟨e', hle⟩
      · exact .inl (by omega)
      · refine .inr ⟨by omega, ?_⟩
        by_cases hjk : j = k
        · subst hjk
          rcases h5 with rfl | h5
          · exact .inl rfl
          · exact .inr (.inr ⟨rfl, h5⟩)
        · exact .inr (.inl (by omega))

def CheapOk : List Row → List Int → Prop
  | [], [] => True
  | r :: rs, c :: cs => (∀ k, k < r.length → c ≤ r.cost k) ∧ CheapOk rs cs
  | _, _ => False
def QuickOk : List Row → List (List Int) → Prop
  | [], [] => True
  | r :: rs, q :: qs => (∀ k, k < r.length → LeL q (r.hi k)) ∧ QuickOk rs qs
  | _, _ => False
def leastOf (rs : List Row) (cheap : List Int) (p : List Nat) : Int := costOf rs p + (cheap.drop p.length).sum
theorem least_le : ∀ {rs : List Row} {cheap : List Int} {p q : List Nat}, CheapOk rs cheap → Full rs (p ++ q) → leastOf rs cheap p ≤ costOf rs (p ++ q)
  | [], [], [], q, _, _ => by
    unfold leastOf
    cases q <;> simp [costOf]
  | r :: rs, c :: cs, [], [], _, h => by
    have := h.2
    simp at this
  | r :: rs, c :: cs, [], k :: q, hc, h => by
    have ih := least_le (rs := rs) (cheap := cs) (p := []) (q := q) hc.2 ⟨h.1.2, by have := h.2; simp at this; simpa using this⟩
    unfold leastOf at ih ⊢
    simp only [List.nil_append, List.length_nil, List.drop_zero, List.sum_cons, costOf] at ih ⊢
    have := hc.1 k h.1.1
    have e : costOf rs [] = 0 := by cases rs <;> rfl
    omega
  | r :: rs, c :: cs, k :: p, q, hc, h => by
    have ih := least_le (rs := rs) (cheap := cs) (p := p) (q := q) hc.2 ⟨h.1.2, by have := h.2; simp at this; simpa using this⟩
    unfold leastOf at ih ⊢
    simp only [List.cons_append, List.length_cons, List.drop_succ_cons, costOf] at ih ⊢
    omega
  | [], [], _ :: _, _, _, h => h.1.elim
  | [], _ :: _, _, _, h, _ => h.elim
  | _ :: _, [], _, _, h, _ => h.elim
theorem least_full {rs : List Row} {cheap : List Int} {p : List Nat} (hc : cheap.length = rs.length) (h : Full rs p) : leastOf rs cheap p = costOf rs p := by
  unfold leastOf
  rw [List.drop_of_length_le (by rw [hc, h.2]; exact Nat.le_refl _)]
  simp
def hiPart (rs : List Row) (quick : List (List Int)) (p : List Nat) : List (List Int) := hiOf rs p ++ quick.drop p.length
theorem hi_le : ∀ {rs : List Row} {quick : List (List Int)} {p q : List Nat}, QuickOk rs quick → Full rs (p ++ q) → LeLL (hiPart rs quick p) (hiOf rs (p ++ q))
  | [], [], [], q, _, _ => by
    unfold hiPart
    cases q <;> exact trivial
  | r :: rs, c :: cs, [], [], _, h => by
    have := h.2
    simp at this
  | r :: rs, c :: cs, [], k :: q, hc, h => by
    have ih := hi_le (rs := rs) (quick := cs) (p := []) (q := q) hc.2 ⟨h.1.2, by have := h.2; simp at this; simpa using this⟩
    unfold hiPart at ih ⊢
    have e : hiOf rs [] = [] := by cases rs <;> rfl
    simp only [List.nil_append, List.length_nil, List.drop_zero, hiOf, e] at ih ⊢
    exact ⟨hc.1 k h.1.1, ih⟩
  | r :: rs, c :: cs, k :: p, q, hc, h => by
    have ih := hi_le (rs := rs) (quick := cs) (p := p) (q := q) hc.2 ⟨h.1.2, by have := h.2; simp at this; simpa using this⟩
    unfold hiPart at ih ⊢
    simp only [List.cons_append, List.length_cons, List.drop_succ_cons, hiOf] at ih ⊢
    exact ⟨LeL.refl _, ih⟩
  | [], [], _ :: _, _, _, h => h.1.elim
  | [], _ :: _, _, _, h, _ => h.elim
  | _ :: _, [], _, _, h, _ => h.elim
theorem Pre.len : ∀ {rs : List Row} {p : List Nat}, Pre rs p → p.length ≤ rs.length
  | _, [], _ => Nat.zero_le _
  | [], _ :: _, h => h.elim
  | r :: rs, k :: ks, h => by
    have := Pre.len h.2
    simp only [List.length_cons]
    omega
theorem Pre.snoc : ∀ {rs : List Row} {p : List Nat} {r : Row} {k : Nat}, Pre rs p → rs[p.length]? = some r → k < r.length → Pre rs (p ++ [k])
  | [], p, r, k, _, e, _ => by simp at e
  | r' :: rs, [], r, k, _, e, hk => by
    simp at e
    subst e
    exact ⟨hk, by cases rs <;> trivial⟩
  | r' :: rs, j :: p, r, k, h, e, hk => ⟨h.1, Pre.snoc (rs := rs) (p := p) h.2 (by simpa using e) hk⟩
theorem Pre.at : ∀ {rs : List Row} {p q : List Nat} {k : Nat}, Pre rs (p ++ k :: q) → ∃ r, rs[p.length]? = some r ∧ k < r.length
  | [], [], _, _, h => h.elim
  | [], _ :: _, _, _, h => h.elim
  | r :: rs, [], _, _, h => ⟨r, rfl, h.1⟩
  | r :: rs, j :: p, q, k, h => by
    obtain ⟨r', e, hk⟩ := Pre.at (rs := rs) (p := p) h.2
    exact ⟨r', by simpa using e, hk⟩
theorem Clean.at : ∀ {rs : List Row} {p q : List Nat} {k : Nat} {r : Row}, Clean rs (p ++ k :: q) → rs[p.length]? = some r → ¬ Useless r k
  | [], [], _, _, _, _, e => by simp at e
  | [], _ :: _, _, _, _, _, e => by simp at e
  | r :: rs, [], _, _, _, h, e => by
    simp at e
    subst e
    exact h.1
  | r :: rs, j :: p, q, k, r', h, e => Clean.at (rs := rs) (p := p) h.2 (by simpa using e)

def Beg (p ch : List Nat) : Prop := ∃ q, ch = p ++ q
def Before (rs : List Row) (p p' : List Nat) : Prop := ∀ ch ch', Full rs ch → Full rs ch' → Beg p ch → Beg p' ch' → lexLt ch ch'
structure SInv (rs : List Row) (F : List (List Int) → Prop) (stack : List (List Nat)) (o : Option (Int × List Nat)) : Prop where
  best : ∀ c b, o = some (c, b) → Full rs b ∧ F (hiOf rs b) ∧ c = costOf rs b
  pre : ∀ p ∈ stack, Pre rs p
  cover : ∀ ch, Full rs ch → F (hiOf rs ch) → Clean rs ch → (∃ c b, o = some (c, b) ∧ leC c b (costOf rs ch) ch) ∨ ∃ p ∈ stack, Beg p ch
  behind : ∀ c b, o = some (c, b) → ∀ p ∈ stack, ∀ ch, Full rs ch → Beg p ch → lexLt b ch
  sorted : stack.Pairwise fun p p' => Before rs p' p
theorem SInv.start (rs : List Row) (F : List (List Int) → Prop) : SInv rs F [[]] none :=
  ⟨fun _ _ e => (nomatch e), fun p hp => by simp at hp; subst hp; cases rs <;> trivial, fun ch _ _ _ => .inr ⟨[], by simp, ch, rfl⟩, fun _ _ e => (nomatch e), by simp⟩
theorem SInv.done {rs : List Row} {F : List (List Int) → Prop} {o : Option (Int × List Nat)} (h : SInv rs F [] o) (hc : CostsOk rs) : Best rs F o := by
  have key : ∀ ch, Full rs ch → F (hiOf rs ch) → ∃ c b, o = some (c, b) ∧ leC c b (costOf rs ch) ch := fun ch hf hF => by
    obtain ⟨cl, h1, h2, h3, h4, h5⟩ := clean_ex rs ch hc hf.1
    rcases h.cover cl ⟨h1, h2.trans hf.2⟩ (by rw [h4]; exact hF) h3 with ⟨c, b, e, q⟩ | ⟨p, hp, _⟩
    · exact ⟨c, b, e, q.trans h5⟩
    · simp at hp
  cases o with
  | none =>
    intro ch hf hF
    obtain ⟨c, b, e, _⟩ := key ch hf hF
    cases e
  | some cb =>
    obtain ⟨c, b⟩ := cb
    obtain ⟨h1, h2, h3⟩ := h.best c b rfl
    refine ⟨h1, h2, h3, fun ch hf hF => ?_⟩
    obtain ⟨c', b', e, q⟩ := key ch hf hF
    cases e
    exact q
section
variable {rs : List Row} {F : List (List Int) → Prop} {stack : List (List Nat)} {p : List Nat} {o : Option (Int × List Nat)}
theorem SInv.drop (h : SInv rs F (stack ++ [p]) o) (hno : ∀ ch, Full rs ch → F (hiOf rs ch) → Clean rs ch → Beg p ch → ∃ c b, o = some (c, b) ∧ c ≤ costOf rs ch) : SInv rs F stack o where
  best := h.best
  pre := fun q hq => h.pre q (List.mem_append_left _ hq)
  cover := fun ch hf hF hcl => by
    rcases h.cover ch hf hF hcl with q | ⟨q, hq, hb⟩
    · exact .inl q
    · rcases List.mem_append.mp hq with hq | hq
      · exact .inr ⟨q, hq, hb⟩
      · simp at hq
        subst hq
        obtain ⟨c, b, e, hle⟩ := hno ch hf hF hcl hb
        have hl := h.behind c b e q (by simp) ch hf hb
        refine .inl ⟨c, b, e, ?_⟩
        by_cases hlt : c < costOf rs ch
        · exact .inl hlt
        · exact .inr ⟨by omega, .inr hl⟩
  behind := fun c b e q hq => h.behind c b e q (List.mem_append_left _ hq)
  sorted := (List.pairwise_append.mp h.sorted).1
theorem SInv.found (h : SInv rs F (stack ++ [p]) o) (hp : Full rs p) (hF : F (hiOf rs p)) (hlt : ∀ c b, o = some (c, b) → costOf rs p < c) : SInv rs F stack (some (costOf rs p, p)) where
  best := fun c b e => by cases e; exact ⟨hp, hF, rfl⟩
  pre := fun q hq => h.pre q (List.mem_append_left _ hq)
  cover := fun ch hf hF' hcl => by
    rcases h.cover ch hf hF' hcl with ⟨c, b, e, q⟩ | ⟨q, hq, hb⟩
    · have := hlt c b e
      refine .inl ⟨_, _, rfl, ?_⟩
      rcases q with q | ⟨q, _⟩
      · exact .inl (Int.lt_trans this q)
      · exact .inl (by omega)
    · rcases List.mem_append.mp hq with hq | hq
      · exact .inr ⟨q, hq, hb⟩
      · simp at hq
        subst hq
        obtain ⟨q', rfl⟩ := hb
        have h1 := hf.2
        have h2 := hp.2
        rw [List.length_append] at h1
        have : q' = [] := List.eq_nil_of_length_eq_zero (by omega)
        subst this
        refine .inl ⟨_, _, rfl, ?_⟩
        rw [List.append_nil]
        exact leC.refl _ _
  behind := fun c b e q hq ch hf hb => by
    cases e
    have hs := (List.pairwise_append.mp h.sorted).2.2 q hq p (by simp)
    exact hs p ch hp hf ⟨[], by simp⟩ hb
  sorted := (List.pairwise_append.mp h.sorted).1
theorem SInv.open {r : Row} {ks : List Nat} (h : SInv rs F (stack ++ [p]) o) (hr : rs[p.length]? = some r) (hks : ks.Pairwise (fun a b => b < a)) (hlt : ∀ k ∈ ks, k < r.length) (hall : ∀ k, k < r.length → k ∈ ks ∨ Useless r k) :
    SInv rs F (stack ++ ks.map fun k => p ++ [k]) o where
  best := h.best
  pre := fun q hq => by
    rcases List.mem_append.mp hq with hq | hq
    · exact h.pre q (List.mem_append_left _ hq)
    · obtain ⟨k, hk, rfl⟩ := List.mem_map.mp hq
      exact (h.pre p (by simp)).snoc hr (hlt k hk)
  cover := fun ch hf hF hcl => by
    rcases h.cover ch hf hF hcl with q | ⟨q, hq, hb⟩
    · exact .inl q
    · refine .inr ?_
      rcases List.mem_append.mp hq with hq | hq
      · exact ⟨q, List.mem_append_left _ hq, hb⟩
      · simp at hq
        subst hq
        obtain ⟨q', rfl⟩ := hb
        have hlen := (List.getElem?_eq_some_iff.mp hr).1
        cases q' with
        | nil =>
          have h1 := hf.2
          rw [List.append_nil] at h1
          omega
        | cons k q' =>
          obtain ⟨r', e', hk⟩ := hf.1.at
          rw [hr] at e'
          cases e'
          rcases hall k hk with hk' | hu
          · exact ⟨q ++ [k], List.mem_append_right _ (List.mem_map.mpr ⟨k, hk', rfl⟩), q', by simp⟩
          · exact absurd hu (hcl.at hr)
  behind := fun c b e q hq ch hf hb => by
    rcases List.mem_append.mp hq with hq | hq
    · exact h.behind c b e q (List.mem_append_left _ hq) ch hf hb
    · obtain ⟨k, hk, rfl⟩ := List.mem_map.mp hq
      obtain ⟨q', rfl⟩ := hb
      exact h.behind c b e p (by simp) _ hf ⟨k :: q', by simp⟩
  sorted := by
    obtain ⟨h1, h2, h3⟩ := List.pairwise_append.mp h.sorted
    refine List.pairwise_append.mpr ⟨h1, ?_, fun q hq q' hq' => ?_⟩
    · rw [List.pairwise_map]
      refine hks.imp fun {a b} hab => ?_
      rintro ch ch' _ _ ⟨q, rfl⟩ ⟨q', rfl⟩
      have := lexLt_fork p hab q q'
      simpa using this
    · obtain ⟨k, hk, rfl⟩ := List.mem_map.mp hq'
      rintro ch ch' hf hf' ⟨q1, rfl⟩ hb'
      exact h3 q hq p (by simp) _ ch' hf hf' ⟨k :: q1, by simp⟩ hb'
end
def wt (B : Nat) : Nat → Nat
  | 0 => 1
  | d + 1 => 1 + B * wt B d
def weigh (B n : Nat) (stack : List (List Nat)) : Nat := (stack.map fun p => wt B (n - p.length)).sum
theorem wt_pos (B d : Nat) : 0 < wt B d := by
  cases d with
  | zero => exact Nat.one_pos
  | succ d => simp only [wt]; omega
theorem weigh_app (B n : Nat) (s t : List (List Nat)) : weigh B n (s ++ t) = weigh B n s + weigh B n t := by
  unfold weigh
  rw [List.map_append, List.sum_append]
theorem weigh_pop (B n : Nat) (s : List (List Nat)) (p : List Nat) : weigh B n s < weigh B n (s ++ [p]) := by
  rw [weigh_app]
  have := wt_pos B (n - p.length)
  have e : weigh B n [p] = wt B (n - p.length) := by
    unfold weigh
    simp
  omega
theorem weigh_kids (B n : Nat) (p : List Nat) : ∀ ks : List Nat, weigh B n (ks.map fun k => p ++ [k]) = ks.length * wt B (n - (p.length + 1))
  | [] => by unfold weigh; simp
  | k :: ks => by
    have ih := weigh_kids B n p ks
    unfold weigh at ih ⊢
    simp only [List.map_cons, List.sum_cons, List.length_append, List.length_cons, List.length_nil, Nat.zero_add, ih, Nat.add_mul, Nat.one_mul]
    omega
theorem weigh_open {B n : Nat} {s : List (List Nat)} {p : List Nat} {ks : List Nat} (hp : p.length < n) (hk : ks.length ≤ B) : weigh B n (s ++ ks.map fun k => p ++ [k]) < weigh B n (s ++ [p]) := by
  rw [weigh_app, weigh_app, weigh_kids]
  have e : weigh B n [p] = wt B (n - p.length) := by
    unfold weigh
    simp
  obtain ⟨d, hd⟩ : ∃ d, n - p.length = d + 1 := ⟨n - p.length - 1, by omega⟩
  have hd' : n - (p.length + 1) = d := by omega
  rw [e, hd, hd']
  simp only [wt]
  have := Nat.mul_le_mul_right (wt B d) hk
  omega

def longer (r : Row) (chs : List (List Nat)) : List (List Nat) := chs.flatMap fun ch => (List.range r.length).map fun k => ch ++ [k]
def allFrom : List Row → List (List Nat) → List (List Nat)
  | [], chs => chs
  | r :: rs, chs => allFrom rs (longer r chs)
def allOf (rs : List Row) : List (List Nat) := allFrom rs [[]]
def EqLen (n : Nat) (chs : List (List Nat)) : Prop := ∀ ch ∈ chs, ch.length = n
theorem lexLt_len : ∀ {a b : List Nat}, lexLt a b → a.length = b.length → ∀ c d, lexLt (a ++ c) (b ++ d)
  | [], [], h, _, _, _ => h.elim
  | [], _ :: _, _, h, _, _ => by simp at h
  | _ :: _, [], h, _, _, _ => h.elim
  | a :: l, b :: m, h, e, c, d => by
    rcases h with h | ⟨rfl, h⟩
    · exact .inl h
    · exact .inr ⟨rfl, lexLt_len h (by simpa using e) c d⟩
theorem longer_sorted (r : Row) {n : Nat} : ∀ {chs : List (List Nat)}, EqLen n chs → chs.Pairwise lexLt → (longer r chs).Pairwise lexLt
  | [], _, _ => by simp [longer]
  | ch :: chs, hn, h => by
    obtain ⟨h1, h2⟩ := List.pairwise_cons.mp h
    have ih := longer_sorted r (chs := chs) (fun c hc => hn c (List.mem_cons_of_mem _ hc)) h2
    show ((List.range r.length).map (fun k => ch ++ [k]) ++ longer r chs).Pairwise lexLt
    refine List.pairwise_append.mpr ⟨?_, ih, fun a ha b hb => ?_⟩
    · rw [List.pairwise_map]
      exact List.pairwise_lt_range.imp fun {a b} hab => lexLt_fork ch hab [] []
    · obtain ⟨k, _, rfl⟩ := List.mem_map.mp ha
      obtain ⟨c, hc, hb⟩ := List.mem_flatMap.mp hb
      obtain ⟨j, _, rfl⟩ := List.mem_map.mp hb
      exact lexLt_len (h1 c hc) ((hn ch List.mem_cons_self).trans (hn c (List.mem_cons_of_mem _ hc)).symm) _ _
theorem longer_len (r : Row) {n : Nat} {chs : List (List Nat)} (h : EqLen n chs) : EqLen (n + 1) (longer r chs) := fun ch h0 => by
  obtain ⟨c, hc, hb⟩ := List.mem_flatMap.mp h0
  obtain ⟨j, _, rfl⟩ := List.mem_map.mp hb
  simp [h c hc]
theorem all_sorted : ∀ (rs : List Row) (n : Nat) (chs : List (List Nat)), EqLen n chs → chs.Pairwise lexLt → (allFrom rs chs).Pairwise lexLt
  | [], _, _, _, h => h
  | r :: rs, n, chs, hn, h => all_sorted rs (n + 1) _ (longer_len r hn) (longer_sorted r hn h)
theorem allOf_sorted (rs : List Row) : (allOf rs).Pairwise lexLt := all_sorted rs 0 [[]] (fun ch h => by simp at h; simp [h]) (by simp)
theorem all_mem : ∀ (rs : List Row) (chs : List (List Nat)) (ch : List Nat), ch ∈ allFrom rs chs ↔ ∃ p q, p ∈ chs ∧ Full rs q ∧ ch = p ++ q
  | [], chs, ch => by
    constructor
    · intro h
      exact ⟨ch, [], h, ⟨trivial, rfl⟩, by simp⟩
    · rintro ⟨p, q, hp, hq, rfl⟩
      have : q = [] := List.eq_nil_of_length_eq_zero (by simpa using hq.2)
      subst this
      rw [List.append_nil]
      exact hp
  | r :: rs, chs, ch => by
    show ch ∈ allFrom rs (longer r chs) ↔ _
    rw [all_mem rs]
    constructor
    · rintro ⟨p, q, hp, hq, rfl⟩
      obtain ⟨c, hc, hb⟩ := List.mem_flatMap.mp hp
      obtain ⟨k, hk, rfl⟩ := List.mem_map.mp hb
      refine ⟨c, k :: q, hc, ⟨⟨by simpa using hk, hq.1⟩, by simp [hq.2]⟩, by simp⟩
    · rintro ⟨p, q, hp, hq, rfl⟩
      cases q with
      | nil =>
        have := hq.2
        simp at this
      | cons k q =>
        refine ⟨p ++ [k], q, ?_, ⟨hq.1.2, by have := hq.2; simpa using this⟩, by simp⟩
        exact List.mem_flatMap.mpr ⟨p, hp, List.mem_map.mpr ⟨k, by simpa using hq.1.1, rfl⟩⟩
theorem allOf_mem {rs : List Row} {ch : List Nat} : ch ∈ allOf rs ↔ Full rs ch := by
  unfold allOf
  rw [all_mem]
  constructor
  · rintro ⟨p, q, hp, hq, rfl⟩
    simp at hp
    subst hp
    exact hq
  · intro h
    exact ⟨[], ch, by simp, h, rfl⟩
structure Due (rs : List Row) (F : List (List Int) → Prop) (pre : List (List Nat)) (o : Option (Int × List Nat)) : Prop where
  best : ∀ c b, o = some (c, b) → b ∈ pre ∧ F (hiOf rs b) ∧ c = costOf rs b
  all : ∀ ch ∈ pre, F (hiOf rs ch) → ∃ c b, o = some (c, b) ∧ leC c b (costOf rs ch) ch
theorem Due.start (rs : List Row) (F : List (List Int) → Prop) : Due rs F [] none := ⟨fun _ _ e => (nomatch e), fun _ h => by simp at h⟩
theorem Due.keep {rs : List Row} {F : List (List Int) → Prop} {pre : List (List Nat)} {o : Option (Int × List Nat)} {ch : List Nat} (h : Due rs F pre o) (hlt : ∀ p ∈ pre, lexLt p ch)
    (hno : F (hiOf rs ch) → ∃ c b, o = some (c, b) ∧ c ≤ costOf rs ch) : Due rs F (pre ++ [ch]) o where
  best := fun c b e => by
    obtain ⟨h1, h2, h3⟩ := h.best c b e
    exact ⟨List.mem_append_left _ h1, h2, h3⟩
  all := fun c' hc hF => by
    rcases List.mem_append.mp hc with hc | hc
    · exact h.all c' hc hF
    · simp at hc
      subst hc
      obtain ⟨c, b, e, hle⟩ := hno hF
      refine ⟨c, b, e, ?_⟩
      by_cases hl : c < costOf rs c'
      · exact .inl hl
      · exact .inr ⟨by omega, .inr (hlt b (h.best c b e).1)⟩
theorem Due.take {rs : List Row} {F : List (List Int) → Prop} {pre : List (List Nat)} {o : Option (Int × List Nat)} {ch : List Nat} (h : Due rs F pre o)
    (hF : F (hiOf rs ch)) (hlt : ∀ c b, o = some (c, b) → costOf rs ch < c) : Due rs F (pre ++ [ch]) (some (costOf rs ch, ch)) where
  best := fun c b e => by
    cases e
    exact ⟨by simp, hF, rfl⟩
  all := fun c' hc hF' => by
    refine ⟨_, _, rfl, ?_⟩
    rcases List.mem_append.mp hc with hc | hc
    · obtain ⟨c, b, e, q⟩ := h.all c' hc hF'
      have := hlt c b e
      rcases q with q | ⟨q, _⟩
      · exact .inl (by omega)
      · exact .inl (by omega)
    · simp at hc
      subst hc
      exact leC.refl _ _
theorem Due.done {rs : List Row} {F : List (List Int) → Prop} {o : Option (Int × List Nat)} (h : Due rs F (allOf rs) o) : Best rs F o := by
  cases o with
  | none =>
    intro ch hf hF
    obtain ⟨c, b, e, _⟩ := h.all ch (allOf_mem.mpr hf) hF
    cases e
  | some cb =>
    obtain ⟨c, b⟩ := cb
    obtain ⟨h1, h2, h3⟩ := h.best c b rfl
    refine ⟨allOf_mem.mp h1, h2, h3, fun ch hf hF => ?_⟩
    obtain ⟨c', b', e, q⟩ := h.all ch (allOf_mem.mpr hf) hF
    cases e
    exact q
end Sg
namespace Sg
open PySem PySem.Spec PyProof.Rows L2
open AutoSeq1 (wpAny_loadPart')
theorem meets_enum_tup (l : Addr) (items : Array Value) :
    Meets (Builtin.«enumerate.__new__» ⟨[.type "enumerate", .ref l], []⟩) (fun _ R s => s.heap.IsTuple l items ∧
      R (.ok (.ret (.ref (s.heap.push { cls := .type "tuple_iterator", data := .fields #[.ref l, .int 0 0] }).objs.size)))
        { s with heap := (s.heap.push { cls := .type "tuple_iterator", data := .fields #[.ref l, .int 0 0] }).push { cls := .type "enumerate", data := .fields #[.none, .bool false, .ref s.heap.objs.size, rawInt 0, .none, .none] } }) :=
  .of_wp fun prog w A R s h => by
    obtain ⟨hp, g, d, tk, os⟩ := s; obtain ⟨hl, h⟩ := h
    have hsub := sub_enumerate
    have hL : Heap.IsTuple (Shared.heap ⟨hp, g, d, tk, os⟩) l items := hl
    wp_walk
    refine wpAny_stack_any fun st => wpAny_pure ?_
    split
    · rename_i c _ _ _ _ _
      cases (c == Value.type "enumerate")
      · wp_walk using wpAny_pyIter_tuple hL
        exact ⟨_, rfl, h⟩
      · wp_walk using wpAny_pyIter_tuple hL
        exact ⟨_, rfl, h⟩
    · wp_walk using wpAny_pyIter_tuple hL
      exact ⟨_, rfl, h⟩
section
variable {prog : Program} {w : World} {A : Around} {E : Value → Shared → Prop} {s : Shared}
theorem call_enum_tup {l : Addr} {items : Array Value} {Q : Value → Shared → Prop} (hL : s.heap.IsTuple l items)
    (h : ∀ h', IsEnum h' (s.heap.objs.size + 1) s.heap.objs.size 0 .none → h'.IsTupleIter s.heap.objs.size l 0 → h'.objs.size = s.heap.objs.size + 2 →
      (∀ b o, s.heap.get? b = some o → h'.get? b = some o) → Q (.ref (s.heap.objs.size + 1)) { s with heap := h' }) :
    wpAny (model prog w) A (call (.type "enumerate") [.ref l]) Q E s := by
  refine callType_new F.called_enumerate (by decide) (F.typeCall_enumerate_1 _) (F.newCall_enumerate_1 _) (fun obj => F.args_object_init_2 obj _) F.entry_enumerate_new
    (meets_enum_tup l items) ⟨hL, ?_⟩
  have hz : (s.heap.push { cls := .type "tuple_iterator", data := .fields #[.ref l, .int 0 0] }).objs.size = s.heap.objs.size + 1 := Heap.size_push ..
  show _ ∧ _
  rw [hz]
  have he : IsEnum ((s.heap.push { cls := .type "tuple_iterator", data := .fields #[.ref l, .int 0 0] }).push
      { cls := .type "enumerate", data := .fields #[.none, .bool false, .ref s.heap.objs.size, rawInt 0, .none, .none] }) (s.heap.objs.size + 1) s.heap.objs.size 0 .none := by
    have := Heap.get?_push_size (s.heap.push { cls := .type "tuple_iterator", data := .fields #[.ref l, .int 0 0] })
      (o := { cls := .type "enumerate", data := .fields #[.none, .bool false, .ref s.heap.objs.size, rawInt 0, .none, .none] }) rfl
    rw [hz] at this; exact this
  refine ⟨⟨_, he, rfl⟩, h _ he ⟨_, Heap.get?_push_of_some _ (Heap.get?_push_size _ rfl), rfl, rfl⟩ (by rw [Heap.size_push, hz]) fun b o x => Heap.get?_push_of_some _ (Heap.get?_push_of_some _ x)⟩
end

def IteT (K : PySem.W.Frag) (a : Addr) : It :=
  ⟨fun i H => ∃ (xs : List V) (x : V), SqT K H a xs ∧ xs[i]? = some x, fun i H v H' => ∃ T x, v = .ref T ∧ H T = none ∧ H' = upd H T (.tup [.int (i : Nat), x]) ∧ ∀ xs, SqT K H a xs → xs[i]? = some x, fun i H => ∃ xs : List V, SqT K H a xs ∧ xs.length ≤ i⟩
theorem turn_enumT {P : Program} {w : World} {K : PySem.W.Frag} {elts : List Expr} {kk : Nat} {tpos : Pos} (a e it : Addr) :
    Turn P w K (.Tuple elts kk tpos) (IteT K a) [e, it] e (fun i h => (∃ old, IsEnum h e it ((i : Nat) : Int) old) ∧ h.IsTupleIter it a i ∧ e ≠ it ∧ a ≠ it ∧ e ≠ a) where
  mem := by simp
  obj := fun i h st b hb => by
    obtain ⟨⟨old, he⟩, ⟨o, ho, hc, hd⟩, _⟩ := st
    have e' : b = e ∨ b = it := by simpa using hb
    rcases e' with z | z
    · rw [z]; exact ⟨_, he, fun v q => nomatch q⟩
    · rw [z]; exact ⟨o, ho, fun v q => by rw [hd] at q; cases q⟩
  keep := fun i h h' st k => let ⟨⟨old, he⟩, hi, hne⟩ := st; ⟨⟨old, k e (by simp) _ he⟩, hi.at fun o q => k it (by simp) o q, hne⟩
  item := by
    intro X hP hw hK hc i pins s σ H E I hf st hg
    subst hP hw hK
    obtain ⟨⟨old, he⟩, hit, hne, hai, hea⟩ := st
    obtain ⟨xs, x, hq, hx⟩ := hg
    obtain ⟨its, rv, p, hz⟩ := I.tuple hq
    obtain ⟨u, hu, ru⟩ := rv.get hx
    have hel : e < s.heap.objs.size := Heap.lt_size he
    have hil : it < s.heap.objs.size := by obtain ⟨_, q, _⟩ := hit; exact Heap.lt_size q
    have hlt : i < its.toArray.size := by
      have := (List.getElem?_eq_some_iff.mp hu).1
      simpa using this
    refine wpAny_pyNext_enum_itemD (Draws.tuple (A := X.A.in1) (I.ok.hd hc) it a hai its.toArray) he ⟨hit, p⟩ hlt hne (by simp [hne, hea]) fun x' h' tk hx' ho st' hT hsz hk => ?_
    have ex : x' = u := by
      have h1 : its.toArray[i]? = some u := by simpa using hu
      rw [h1] at hx'
      exact (Option.some.inj hx').symm
    subst ex
    refine ⟨_, rfl, wpAny_letOwnedTupleGo_enum (s := { s with heap := h', toks := tk + 1 }) ho fun h'' he' sb => ?_⟩
    have hT2 : h''.get? s.heap.objs.size = some { cls := .type "tuple", data := .seq #[.int i tk, x'] } := (sb.2 _ (Nat.ne_of_gt hel)).trans hT
    have new : ObjOk X.prog X.w (upd H s.heap.objs.size (.tup [.int (i : Nat), x])) h'' s.heap.objs.size (.tup [.int (i : Nat), x]) :=
      ⟨by show 2 ≤ sizeLine; decide, [.int i tk, x'], .cons ⟨_, rfl⟩ (.cons ru .nil), ⟨_, hT2, rfl, _, rfl⟩⟩
    have I1 : Inv X pins σ (upd H s.heap.objs.size (.tup [.int (i : Nat), x])) { s with heap := h'', toks := tk + 1 } :=
      I.turnedNew (ch := [e, it]) (fun b ob hb q => (sb.2 b (fun z => hb (by simp [z]))).trans (hk b ob (fun z => hb (by simp [z])) (fun z => hb (by simp [z])) q)) hf (Nat.le_refl _) new
    refine ⟨.ref s.heap.objs.size, _, I1, rfl, ⟨_, x, rfl, I.hok.fresh (Nat.le_refl _), rfl, fun ys hy => by rw [I.tuple_inj hy hq]; exact hx⟩, ⟨⟨x', ?_⟩, st'.1.at fun o q => (sb.2 it (Ne.symm hne)).trans q, hne, hai, hea⟩, fun b hb => ?_⟩
    · have e1 : ((i + 1 : Nat) : Int) = (i : Int) + 1 := by omega
      rw [e1]; exact he'
    · have hb' : b < s.heap.objs.size := by
        have e' : b = e ∨ b = it := by simpa using hb
        rcases e' with z | z
        · rw [z]; exact hel
        · rw [z]; exact hil
      rw [upd_ne (Nat.ne_of_lt hb')]
      exact (hf b hb).1
  done := by
    intro X hP hw hK hc i pins s σ H E I hf st hg
    subst hP hw hK
    obtain ⟨⟨old, he⟩, hit, hne, hai, hea⟩ := st
    obtain ⟨xs, hq, hx⟩ := hg
    obtain ⟨its, rv, p, hz⟩ := I.tuple hq
    obtain ⟨f0, f1, f2, f3, f4, f5⟩ := hf it (by simp)
    have hl := rv.length
    have hi : its.toArray[i]? = none := by simp; omega
    refine wpAny_pyNext_enum_endD (n := i) (P := fun _ _ => True) (St := fun k h => k = i ∧ h.IsTupleIter it a i ∧ h.IsTuple a its.toArray) (fp := [it, a]) ⟨fun _ _ st => ?_, fun _ _ _ st hk => ?_, fun j s' Q' E' hj st hQ => absurd hj ?_, fun s' Q' E' st hE => ?_⟩ he ⟨rfl, hit, p⟩ fun h' eb => ⟨rfl, I.turned (t' := s.toks) (fun b o hb q => eb b o hb q) f0 f1 f3 f4 f5⟩
    · obtain ⟨o, ho, _⟩ := st.2.1
      exact ⟨o, ho⟩
    · exact ⟨st.1, st.2.1.at fun o e => hk it (by simp) o e, st.2.2.at fun o e => hk a (by simp) o e⟩
    · rw [st.1]
      exact Nat.lt_irrefl _
    · exact wpAny_nextOf_tuple_end (I.ok.hd hc) st.2.1 st.2.2 hi hE
  self := fun A i s Q E st h => let ⟨⟨_, he⟩, _⟩ := st; wpAny_pyIter_enum he h

def iEnumT (K : PySem.W.Frag) (ta : TA) : TI := fun σ H R => ta σ H fun vs H1 => ∃ a xs, vs = [.ref a] ∧ SqT K H1 a xs ∧ R (IteT K a) H1
theorem pi_enumT {X : Cx} {e : Expr} {ta : TA} {p pos tpos : Pos} {elts : List Expr} {kk : Nat} (hg : Gl X "enumerate") (hm : X.mg "enumerate" = none) (ha : PA X [e] ta) (hs : starEach [e] X.env = [(false, eval e X.env)] := by rfl) :
    PI X (.Tuple elts kk tpos) (.Call (.Name "enumerate" p) [e] [] pos) (iEnumT X.K ta) := by
  refine ⟨fun pins s σ H R I h => ?_⟩
  refine Call_ (ld_blt I hg hm boot_enumerate (PyProof.Rows.callWith_type1 (thn (ha.run pos pins s σ H _ I h) fun us s1 ⟨vs, H1, I1, r1, q1⟩ => ?_) hs rfl))
  obtain ⟨a, xs, ex, hq, q⟩ := q1
  subst ex
  cases r1 with
  | cons r rr =>
    cases rr
    cases r
    obtain ⟨its, rv, p', hz⟩ := I1.tuple hq
    obtain ⟨o', ho', _⟩ := id p'
    have hal : a < s1.heap.objs.size := Heap.lt_size ho'
    refine call_enum_tup (show s1.heap.IsTuple a its.toArray from p') fun h' he hit hsz hk => wpAny_pyIter_enum he ?_
    have I2 : Inv X pins σ H1 { s1 with heap := h' } := I1.kept (t' := s1.toks) hk
    refine ⟨s1.heap.objs.size + 1, [s1.heap.objs.size + 1, s1.heap.objs.size], _, _, H1, rfl, I2, turn_enumT a (s1.heap.objs.size + 1) s1.heap.objs.size, ⟨⟨.none, he⟩, hit, Nat.succ_ne_self _, Nat.ne_of_lt hal, Nat.ne_of_gt (Nat.lt_succ_of_lt hal)⟩, fun b hb => ?_, q⟩
    have e' : b = s1.heap.objs.size + 1 ∨ b = s1.heap.objs.size := by simpa using hb
    have hle : s1.heap.objs.size ≤ b := by
      rcases e' with z | z
      · rw [z]; exact Nat.le_add_right _ _
      · rw [z]; exact Nat.le_refl _
    exact I1.fpOk hle (I1.hok.fresh hle)
theorem walk_enumT {K : PySem.W.Frag} {a : Addr} {xs : List V} : Walk (IteT K a) xs.length (fun H => SqT K H a xs) (YPair (fun i => some (.int (i : Nat))) (fun i => xs[i]?)) := by
  refine ⟨fun i _ hi q => ⟨xs, xs[i], q, by simp [hi]⟩, fun _ q => ⟨xs, q, Nat.le_refl _⟩, fun i H v H' _ q y => ?_⟩
  obtain ⟨T, x, h1, h2, h3, h4⟩ := y
  exact ⟨T, .int (i : Nat), x, h1, h2, h3, rfl, h4 xs q⟩

section
variable {prog : Program} {w : World} {A : Around}
theorem drawsT_at {it l : Addr} {i : Nat} {items : Array Value} {h : Heap} (hh : A.handled = none) (hne : l ≠ it) (hit : h.IsTupleIter it l i) (hl : h.IsTuple l items) :
    ∃ (n : Nat) (P : Nat → Value → Prop) (St : Nat → Heap → Prop), Draws prog w A it [it, l] n P St ∧ St i h ∧ i ≤ n ∧ (items[i]? = none → i = n) := by
  by_cases hi : i < items.size
  · exact ⟨items.size, _, _, Draws.tuple hh it l hne items, ⟨hit, hl⟩, Nat.le_of_lt hi, fun e => by simp at e; omega⟩
  · refine ⟨i, fun _ _ => True, fun k h => k = i ∧ h.IsTupleIter it l i ∧ h.IsTuple l items, ⟨fun _ _ st => ?_, fun _ _ _ st hk => ?_, fun j s' Q' E' hj st hQ => absurd hj ?_, fun s' Q' E' st hE => ?_⟩, ⟨rfl, hit, hl⟩, Nat.le_refl _, fun _ => rfl⟩
    · obtain ⟨o, ho, _⟩ := st.2.1
      exact ⟨o, ho⟩
    · exact ⟨st.1, st.2.1.at fun o e => hk it (by simp) o e, st.2.2.at fun o e => hk l (by simp) o e⟩
    · rw [st.1]
      exact Nat.lt_irrefl _
    · exact wpAny_nextOf_tuple_end hh st.2.1 st.2.2 (by simp; omega) hE
theorem drawsL_at {it l : Addr} {i : Nat} {items : Array Value} {h : Heap} (hh : A.handled = none) (hne : l ≠ it) (hit : h.IsListIter it l i) (hl : h.IsList l items) :
    ∃ (n : Nat) (P : Nat → Value → Prop) (St : Nat → Heap → Prop), Draws prog w A it [it, l] n P St ∧ St i h ∧ i ≤ n ∧ (items[i]? = none → i = n) := by
  by_cases hi : i < items.size
  · exact ⟨items.size, _, _, Draws.list hh it l hne items, ⟨hit, hl⟩, Nat.le_of_lt hi, fun e => by simp at e; omega⟩
  · refine ⟨i, fun _ _ => True, fun k h => k = i ∧ h.IsListIter it l i ∧ h.IsList l items, ⟨fun _ _ st => ?_, fun _ _ _ st hk => ?_, fun j s' Q' E' hj st hQ => absurd hj ?_, fun s' Q' E' st hE => ?_⟩, ⟨rfl, hit, hl⟩, Nat.le_refl _, fun _ => rfl⟩
    · obtain ⟨o, ho, _⟩ := st.2.1
      exact ⟨o, ho⟩
    · exact ⟨st.1, st.2.1.at fun o e => hk it (by simp) o e, st.2.2.at fun o e => hk l (by simp) o e⟩
    · rw [st.1]
      exact Nat.lt_irrefl _
    · exact wpAny_nextOf_list_end hh st.2.1 st.2.2 (by simp; omega) hE
end
def ItzM (K : PySem.W.Frag) (a b : Addr) : It :=
  ⟨fun i H => ∃ (xs ys : List V) (x y : V), SqT K H a xs ∧ SqL K H b ys ∧ xs[i]? = some x ∧ ys[i]? = some y,
    fun i H v H' => ∃ T x y, v = .ref T ∧ H T = none ∧ H' = upd H T (.tup [x, y]) ∧ (∀ xs, SqT K H a xs → xs[i]? = some x) ∧ ∀ ys, SqL K H b ys → ys[i]? = some y,
    fun i H => ∃ xs ys : List V, SqT K H a xs ∧ SqL K H b ys ∧ (xs.length ≤ i ∨ ys.length ≤ i)⟩
theorem turn_zipM {P : Program} {w : World} {K : PySem.W.Frag} {elts : List Expr} {kk : Nat} {tpos : Pos} {a b z TI TO i1 i2 : Addr} (D : ZipApart z TI TO i1 i2 a b) :
    Turn P w K (.Tuple elts kk tpos) (ItzM K a b) [z, TI, TO, i1, i2] z (fun i h => IsZip h z TI TO .none ∧ IsPair h TI (.ref i1) (.ref i2) ∧ (∃ x y, IsPair h TO x y) ∧ h.IsTupleIter i1 a i ∧ h.IsListIter i2 b i) where
  mem := by simp
  obj := fun i h st c hc => by
    obtain ⟨hz, hTI, ⟨x, y, hTO⟩, ⟨o1, e1, _, d1⟩, ⟨o2, e2, _, d2⟩⟩ := st
    have e' : c = z ∨ c = TI ∨ c = TO ∨ c = i1 ∨ c = i2 := by simpa using hc
    rcases e' with q | q | q | q | q
    · rw [q]; exact ⟨_, hz, fun v q => nomatch q⟩
    · rw [q]; exact ⟨_, hTI, fun v q => nomatch q⟩
    · rw [q]; exact ⟨_, hTO, fun v q => nomatch q⟩
    · rw [q]; exact ⟨o1, e1, fun v q => by rw [d1] at q; cases q⟩
    · rw [q]; exact ⟨o2, e2, fun v q => by rw [d2] at q; cases q⟩
  keep := fun i h h' st k => by
    obtain ⟨hz, hTI, ⟨x, y, hTO⟩, h1, h2⟩ := st
    exact ⟨k z (by simp) _ hz, k TI (by simp) _ hTI, ⟨x, y, k TO (by simp) _ hTO⟩, h1.at fun o q => k i1 (by simp) o q, h2.at fun o q => k i2 (by simp) o q⟩
  item := by
    intro X hP hw hK hc i pins s σ H E I hf st hg
    subst hP hw hK
    obtain ⟨hz, hTI, ⟨x0, y0, hTO⟩, h1, h2⟩ := st
    obtain ⟨xs, ys, x, y, hqx, hqy, hx, hy⟩ := hg
    obtain ⟨its, rv, p, _⟩ := I.tuple hqx
    obtain ⟨its2, rv2, p2, _⟩ := I.list hqy
    obtain ⟨u, hu, ru⟩ := rv.get hx
    obtain ⟨u2, hu2, ru2⟩ := rv2.get hy
    have hzl : z < s.heap.objs.size := Heap.lt_size hz
    have l1 : i < its.toArray.size := by
      have := (List.getElem?_eq_some_iff.mp hu).1
      simpa using this
    have l2 : i < its2.toArray.size := by
      have := (List.getElem?_eq_some_iff.mp hu2).1
      simpa using this
    have S : ZipSep2 z TI TO i1 i2 [i1, a] [i2, b] := ⟨D.TIz, D.TOz, D.TITO, D.TIi1, by simp, by simp [D.i1z.symm, D.l1z.symm], by simp [D.TOi1, D.l1TO.symm], D.TIi2, by simp, by simp [D.i2z.symm, D.l2z.symm], by simp [D.TOi2, D.l2TO.symm], by simp [D.i12, D.l2i1.symm], by simp [D.i12.symm, D.l1i2.symm]⟩
    refine wpAny_pyNext_zipD2_item S (Draws.tuple (A := X.A.in1) (I.ok.hd hc) i1 a D.l1i1 its.toArray) (Draws.list (A := X.A.in1) (I.ok.hd hc) i2 b D.l2i2 its2.toArray) hz hTI hTO ⟨h1, p⟩ ⟨h2, p2.isList⟩ l1 l2 fun x1 x2 h' tk hx1 hx2 z' TO' h1' h2' hT hsz hk => ?_
    have ex1 : x1 = u := by
      have q : its.toArray[i]? = some u := by simpa using hu
      rw [q] at hx1
      exact (Option.some.inj hx1).symm
    have ex2 : x2 = u2 := by
      have q : its2.toArray[i]? = some u2 := by simpa using hu2
      rw [q] at hx2
      exact (Option.some.inj hx2).symm
    subst ex1 ex2
    refine ⟨_, rfl, wpAny_letOwnedTupleGo_zip (s := { s with heap := h', toks := tk }) z' fun h'' z'' sb => ?_⟩
    have hT2 : h''.get? s.heap.objs.size = some { cls := .type "tuple", data := .seq #[x1, x2] } := (sb.2 _ (Nat.ne_of_gt hzl)).trans hT
    have new : ObjOk X.prog X.w (upd H s.heap.objs.size (.tup [x, y])) h'' s.heap.objs.size (.tup [x, y]) :=
      ⟨by show 2 ≤ sizeLine; decide, [x1, x2], .cons ru (.cons ru2 .nil), ⟨_, hT2, rfl, _, rfl⟩⟩
    have I1 : Inv X pins σ (upd H s.heap.objs.size (.tup [x, y])) { s with heap := h'', toks := tk } :=
      I.turnedNew (ch := [z, TI, TO, i1, i2]) (fun c o hb q => (sb.2 c (fun q' => hb (by simp [q']))).trans (hk c o (fun q' => hb (by simp [q'])) (fun q' => hb (by simp [q'])) (fun q' => hb (by simp [q'])) (fun q' => hb (by simp [q'])) q)) hf (Nat.le_refl _) new
    refine ⟨.ref s.heap.objs.size, _, I1, rfl, ⟨_, x, y, rfl, I.hok.fresh (Nat.le_refl _), rfl, fun l hl => by rw [I.tuple_inj hl hqx]; exact hx, fun l hl => by rw [I.list_inj hl hqy]; exact hy⟩, ⟨z'', ?_, ⟨x1, x2, ?_⟩, ?_, ?_⟩, fun c hcm => ?_⟩
    · exact (sb.2 _ D.TIz).trans (hk _ _ D.TIz D.TITO D.TIi1 D.TIi2 hTI)
    · exact (sb.2 _ D.TOz).trans TO'
    · exact h1'.1.at fun o q => (sb.2 _ D.i1z).trans q
    · exact h2'.1.at fun o q => (sb.2 _ D.i2z).trans q
    · have hlt : c < s.heap.objs.size := by
        have e' : c = z ∨ c = TI ∨ c = TO ∨ c = i1 ∨ c = i2 := by simpa using hcm
        rcases e' with q | q | q | q | q
        · rw [q]; exact hzl
        · rw [q]; exact Heap.lt_size hTI
        · rw [q]; exact Heap.lt_size hTO
        · rw [q]; obtain ⟨_, e1, _⟩ := h1; exact Heap.lt_size e1
        · rw [q]; obtain ⟨_, e2, _⟩ := h2; exact Heap.lt_size e2
      rw [upd_ne (Nat.ne_of_lt hlt)]
      exact (hf c hcm).1
  done := by
    intro X hP hw hK hc i pins s σ H E I hf st hg
    subst hP hw hK
    obtain ⟨hz, hTI, ⟨x0, y0, hTO⟩, h1, h2⟩ := st
    obtain ⟨xs, ys, hqx, hqy, hend⟩ := hg
    obtain ⟨its, rv, p, _⟩ := I.tuple hqx
    obtain ⟨its2, rv2, p2, _⟩ := I.list hqy
    have q1 := rv.length
    have q2 := rv2.length
    have S : ZipSep2 z TI TO i1 i2 [i1, a] [i2, b] := ⟨D.TIz, D.TOz, D.TITO, D.TIi1, by simp, by simp [D.i1z.symm, D.l1z.symm], by simp [D.TOi1, D.l1TO.symm], D.TIi2, by simp, by simp [D.i2z.symm, D.l2z.symm], by simp [D.TOi2, D.l2TO.symm], by simp [D.i12, D.l2i1.symm], by simp [D.i12.symm, D.l1i2.symm]⟩
    have fin : ∀ h' tk, (∀ c o, c ≠ z → c ≠ TO → c ≠ i1 → c ≠ i2 → s.heap.get? c = some o → h'.get? c = some o) → Inv X pins σ H { s with heap := h', toks := tk } := fun h' tk hk =>
      I.turnedL (ch := [z, TI, TO, i1, i2]) (fun c o hb q => hk c o (fun q' => hb (by simp [q'])) (fun q' => hb (by simp [q'])) (fun q' => hb (by simp [q'])) (fun q' => hb (by simp [q'])) q) hf
    obtain ⟨n1, P1, St1, D1, st1, a1, b1⟩ := drawsT_at (A := X.A.in1) (prog := X.prog) (w := X.w) (I.ok.hd hc) D.l1i1 h1 p
    obtain ⟨n2, P2, St2, D2, st2, a2, b2⟩ := drawsL_at (A := X.A.in1) (prog := X.prog) (w := X.w) (I.ok.hd hc) D.l2i2 h2 p2.isList
    refine wpAny_pyNext_zipD2_end S D1 D2 hz hTI hTO st1 st2 a1 a2 ?_ fun h' tk hk => ⟨rfl, fin h' tk hk⟩
    rcases hend with q | q
    · exact .inl (b1 (by simp; omega))
    · exact .inr (b2 (by simp; omega))
  self := fun A i s Q E st h => wpAny_pyIter_zip st.1 h

def iZipM (K : PySem.W.Frag) (ta : TA) : TI := fun σ H R => ta σ H fun vs H1 => ∃ a b xs ys, vs = [.ref a, .ref b] ∧ SqT K H1 a xs ∧ SqL K H1 b ys ∧ R (ItzM K a b) H1
theorem pi_zipM {X : Cx} {e e2 : Expr} {ta : TA} {p pos tpos : Pos} {elts : List Expr} {kk : Nat} (hg : Gl X "zip") (hm : X.mg "zip" = none) (ha : PA X [e, e2] ta)
    (hs : starEach [e, e2] X.env = (false, eval e X.env) :: starEach [e2] X.env := by rfl) (hpl : (backTo pos (starEach [e2] X.env)).any (·.1) = false := by rfl) :
    PI X (.Tuple elts kk tpos) (.Call (.Name "zip" p) [e, e2] [] pos) (iZipM X.K ta) := by
  refine ⟨fun pins s σ H R I h => ?_⟩
  refine Call_ (ld_blt I hg hm PyProof.Rows.boot_zip (PyProof.Rows.callWith_type1 (thn (ha.run pos pins s σ H _ I h) fun us s1 ⟨vs, H1, I1, r1, q1⟩ => ?_) hs hpl))
  obtain ⟨a, b, xs, ys, ex, hqx, hqy, q⟩ := q1
  subst ex
  cases r1 with
  | cons r rr =>
    cases rr with
    | cons r' rr =>
      cases rr
      cases r
      cases r'
      obtain ⟨its, rv, p1, _⟩ := I1.tuple hqx
      obtain ⟨its2, rv2, p2, _⟩ := I1.list hqy
      obtain ⟨o1, ho1, _⟩ := id p1
      have la : a < s1.heap.objs.size := Heap.lt_size ho1
      have lb : b < s1.heap.objs.size := p2.lt
      refine zip_begins2 (begins_tuple a its.toArray) (begins_list b its2.toArray) (show s1.heap.IsTuple a its.toArray from p1) p2.isList fun h' hz hTI hTO h1 h2 hsz hk => wpAny_pyIter_zip hz ?_
      have I2 : Inv X pins σ H1 { s1 with heap := h' } := I1.kept (t' := s1.toks) hk
      refine ⟨s1.heap.objs.size + 4, [s1.heap.objs.size + 4, s1.heap.objs.size + 2, s1.heap.objs.size + 3, s1.heap.objs.size, s1.heap.objs.size + 1], _, _, H1, rfl, I2, turn_zipM (PySem.W.ktu_apart s1.heap.objs.size a b la lb), ⟨hz, hTI, ⟨_, _, hTO⟩, ⟨_, h1, rfl, rfl⟩, ⟨_, h2, rfl, rfl⟩⟩, fun c hcm => ?_, q⟩
      have e' : c = s1.heap.objs.size + 4 ∨ c = s1.heap.objs.size + 2 ∨ c = s1.heap.objs.size + 3 ∨ c = s1.heap.objs.size ∨ c = s1.heap.objs.size + 1 := by simpa using hcm
      have hle : s1.heap.objs.size ≤ c := by
        rcases e' with z | z | z | z | z
        · rw [z]; exact Nat.le_add_right _ _
        · rw [z]; exact Nat.le_add_right _ _
        · rw [z]; exact Nat.le_add_right _ _
        · rw [z]; exact Nat.le_refl _
        · rw [z]; exact Nat.le_add_right _ _
      exact I1.fpOk hle (I1.hok.fresh hle)
theorem walk_zipM {K : PySem.W.Frag} {a b : Addr} {xs ys : List V} {n : Nat} (hn : n = min xs.length ys.length) : Walk (ItzM K a b) n (fun H => SqT K H a xs ∧ SqL K H b ys) (YPair (fun i => xs[i]?) (fun i => ys[i]?)) := by
  subst hn
  refine ⟨fun i _ hi q => ?_, fun _ q => ⟨xs, ys, q.1, q.2, by omega⟩, fun i H v H' _ q y => ?_⟩
  · have h1 : i < xs.length := by omega
    have h2 : i < ys.length := by omega
    exact ⟨xs, ys, xs[i], ys[i], q.1, q.2, by simp [h1], by simp [h2]⟩
  · obtain ⟨T, x, z, h1, h2, h3, h4, h5⟩ := y
    exact ⟨T, x, z, h1, h2, h3, h4 xs q.1, h5 ys q.2⟩
theorem walk_zipT {K : PySem.W.Frag} {a b : Addr} {xs ys : List V} {n : Nat} (hn : n = min xs.length ys.length) : Walk (RZ.ItzT K a b) n (fun H => SqT K H a xs ∧ SqT K H b ys) (YPair (fun i => xs[i]?) (fun i => ys[i]?)) := by
  subst hn
  refine ⟨fun i _ hi q => ?_, fun _ q => ⟨xs, ys, q.1, q.2, by omega⟩, fun i H v H' _ q y => ?_⟩
  · have h1 : i < xs.length := by omega
    have h2 : i < ys.length := by omega
    exact ⟨xs, ys, xs[i], ys[i], q.1, q.2, by simp [h1], by simp [h2]⟩
  · obtain ⟨T, x, z, h1, h2, h3, h4, h5⟩ := y
    exact ⟨T, x, z, h1, h2, h3, h4 xs q.1, h5 ys q.2⟩

def rRngQ : List V → Hp → VK → Prop := fun vs H Q => ∃ i, vs = [V.int i] ∧ ∀ p, H p = none → Q (.ref p) (upd H p (.rng 0 i))
theorem cr_range1 {X : Cx} : CallR X (.type "range") rRngQ := by
  intro pins s σ H vs us Q I r h
  obtain ⟨i, rfl, q⟩ := h
  obtain ⟨u1, rfl, ri⟩ := vals1 r
  obtain ⟨t, rfl⟩ := ri
  refine call_range_1 ⟨.ref s.heap.objs.size, upd H s.heap.objs.size (.rng 0 i), I.laid (t' := s.toks + 1 + 1) (fun b o e => Heap.get?_push_of_some _ e) (Nat.le_refl _) ?_, rfl, q _ (I.hok.fresh (Nat.le_refl _))⟩
  exact ⟨s.toks, t, s.toks + 1, Heap.get?_push_size _ rfl⟩
def iRng (te : TE) : TI := fun σ H R => te σ H fun x H1 => ∃ (a : Addr) (j : Int), x = .ref a ∧ H1 a = some (.rng 0 j) ∧ -(2 ^ 62) ≤ j ∧ j < 2 ^ 62 ∧ R (Itr 0 j.toNat) H1
theorem pi_rng {X : Cx} {tg l : Expr} {te : TE} (hl : PE X l te) : PI X tg l (iRng te) := by
  refine ⟨fun pins s σ H R I h => ?_⟩
  refine thn (hl.run pins s σ H _ I h) fun v s1 ⟨x, H1, I1, r1, a, j, ex, ha, q1, q2, q⟩ => ?_
  subst ex
  cases r1
  obtain ⟨t, u, z, e⟩ := I1.hok a _ ha
  refine wpAny_pyIter_range (show IsRange s1.heap a 0 j 1 t u z from e) (small_one (by omega) (by omega) q1 q2) ?_
  refine ⟨s1.heap.objs.size, [s1.heap.objs.size], _, _, H1, rfl, I1.kept (t' := s1.toks) fun b o e => Heap.get?_push_of_some _ e, turn_range _ 0 j.toNat, ?_, fun b hb => ?_, q⟩
  · have e1 : (0 : Int) + ((0 : Nat) : Int) * 1 = 0 := by simp
    have e2 : ((j.toNat : Nat) : Int) - ((0 : Nat) : Int) = Builtin.Range.rangeSize 0 j 1 := by rw [rangeSize_one]; split <;> omega
    show IsRangeIter _ _ ((0 : Int) + ((0 : Nat) : Int) * 1) (((j.toNat : Nat) : Int) - ((0 : Nat) : Int)) 1
    rw [e1, e2]
    exact Heap.get?_push_size _ rfl
  · have e : b = s1.heap.objs.size := by simpa using hb
    subst e
    exact I1.fpOk (Nat.le_refl _) (I1.hok.fresh (Nat.le_refl _))
end Sg
namespace Sg
open PySem PySem.Spec PyProof.Rows L2

mutual
inductive Is (H : Hp) : PyData → V → Prop
  | non : Is H .none .non
  | bl (b : Bool) : Is H (.bool b) (.bl b)
  | int (i : Int) : Is H (.int i) (.int i)
  | str (x : Str) : Is H (.str x) (.str x)
  | lst {a : Addr} {xs : List V} {ds : List PyData} : H a = some (.lst xs) → IsA H ds xs → Is H (.list ds) (.ref a)
  | tup {a : Addr} {xs : List V} {ds : List PyData} : H a = some (.tup xs) → IsA H ds xs → Is H (.tuple ds) (.ref a)
inductive IsA (H : Hp) : List PyData → List V → Prop
  | nil : IsA H [] []
  | cons {d : PyData} {v : V} {ds : List PyData} {vs : List V} : Is H d v → IsA H ds vs → IsA H (d :: ds) (v :: vs)
end
mutual
theorem Is.mono {H H' : Hp} (e : Same H H') : ∀ {d : PyData} {v : V}, Is H d v → Is H' d v
  | _, _, .non => .non
  | _, _, .bl b => .bl b
  | _, _, .int i => .int i
  | _, _, .str x => .str x
  | _, _, .lst h r => .lst (e _ _ h) (IsA.mono e r)
  | _, _, .tup h r => .tup (e _ _ h) (IsA.mono e r)
theorem IsA.mono {H H' : Hp} (e : Same H H') : ∀ {ds : List PyData} {vs : List V}, IsA H ds vs → IsA H' ds vs
  | _, _, .nil => .nil
  | _, _, .cons h r => .cons (Is.mono e h) (IsA.mono e r)
end
theorem IsA.len {H : Hp} : ∀ {ds : List PyData} {vs : List V}, IsA H ds vs → vs.length = ds.length
  | _, _, .nil => rfl
  | _, _, .cons _ r => by simp [IsA.len r]
theorem IsA.get {H : Hp} : ∀ {ds : List PyData} {vs : List V} {i : Nat} {d : PyData}, IsA H ds vs → ds[i]? = some d → ∃ v, vs[i]? = some v ∧ Is H d v
  | _, _, _, _, .nil, e => by simp at e
  | _, _, 0, _, .cons h _, e => by
    simp at e
    subst e
    exact ⟨_, rfl, h⟩
  | _, _, i + 1, d, .cons _ r, e => by
    obtain ⟨v, h1, h2⟩ := IsA.get (i := i) (d := d) r (by simpa using e)
    exact ⟨v, by simpa using h1, h2⟩
theorem IsA.app {H : Hp} : ∀ {ds es : List PyData} {vs ws : List V}, IsA H ds vs → IsA H es ws → IsA H (ds ++ es) (vs ++ ws)
  | _, _, _, _, .nil, s => s
  | _, _, _, _, .cons h r, s => .cons h (IsA.app r s)
theorem IsA.one {H : Hp} {d : PyData} {v : V} (h : Is H d v) : IsA H [d] [v] := .cons h .nil
theorem IsA.take {H : Hp} : ∀ {ds : List PyData} {vs : List V} (n : Nat), IsA H ds vs → IsA H (ds.take n) (vs.take n)
  | _, _, 0, _ => .nil
  | _, _, _ + 1, .nil => .nil
  | _, _, n + 1, .cons h r => .cons h (IsA.take n r)
theorem IsA.drop {H : Hp} : ∀ {ds : List PyData} {vs : List V} (n : Nat), IsA H ds vs → IsA H (ds.drop n) (vs.drop n)
  | _, _, 0, r => r
  | _, _, _ + 1, .nil => .nil
  | _, _, n + 1, .cons _ r => IsA.drop n r
theorem IsA.eraseIdx {H : Hp} : ∀ {ds : List PyData} {vs : List V} (n : Nat), IsA H ds vs → IsA H (ds.eraseIdx n) (vs.eraseIdx n)
  | _, _, _, .nil => .nil
  | _, _, 0, .cons _ r => r
  | _, _, n + 1, .cons h r => .cons h (IsA.eraseIdx n r)
theorem IsA.nil_inv {H : Hp} {vs : List V} (h : IsA H [] vs) : vs = [] := by cases h; rfl
theorem IsA.cons_inv {H : Hp} {d : PyData} {ds : List PyData} {vs : List V} (h : IsA H (d :: ds) vs) : ∃ v r, vs = v :: r ∧ Is H d v ∧ IsA H ds r := by
  cases h with
  | cons a b => exact ⟨_, _, rfl, a, b⟩
theorem Is.int_inv {H : Hp} {i : Int} {v : V} (h : Is H (.int i) v) : v = .int i := by cases h; rfl
theorem Is.str_inv {H : Hp} {i : Str} {v : V} (h : Is H (.str i) v) : v = .str i := by cases h; rfl
theorem Is.bool_inv {H : Hp} {i : Bool} {v : V} (h : Is H (.bool i) v) : v = .bl i := by cases h; rfl
theorem Is.none_inv {H : Hp} {v : V} (h : Is H .none v) : v = .non := by cases h; rfl
theorem Is.tup_inv {H : Hp} {ds : List PyData} {v : V} (h : Is H (.tuple ds) v) : ∃ a xs, v = .ref a ∧ H a = some (.tup xs) ∧ IsA H ds xs := by
  cases h with
  | tup a b => exact ⟨_, _, rfl, a, b⟩
theorem Is.lst_inv {H : Hp} {ds : List PyData} {v : V} (h : Is H (.list ds) v) : ∃ a xs, v = .ref a ∧ H a = some (.lst xs) ∧ IsA H ds xs := by
  cases h with
  | lst a b => exact ⟨_, _, rfl, a, b⟩
theorem IsA.ints {H : Hp} : ∀ {ns : List Int} {vs : List V}, IsA H (ns.map PyData.int) vs → vs = ns.map V.int
  | [], _, h => h.nil_inv
  | n :: ns, _, h => by
    obtain ⟨v, r, e, a, b⟩ := IsA.cons_inv h
    rw [e, a.int_inv, IsA.ints b]
    all_goals rfl
theorem IsA.strs {H : Hp} : ∀ {ns : List Str} {vs : List V}, IsA H (ns.map PyData.str) vs → vs = ns.map V.str
  | [], _, h => h.nil_inv
  | n :: ns, _, h => by
    obtain ⟨v, r, e, a, b⟩ := IsA.cons_inv h
    rw [e, a.str_inv, IsA.strs b]
    all_goals rfl
theorem IsA.bools {H : Hp} : ∀ {ns : List Bool} {vs : List V}, IsA H (ns.map PyData.bool) vs → vs = ns.map V.bl
  | [], _, h => h.nil_inv
  | n :: ns, _, h => by
    obtain ⟨v, r, e, a, b⟩ := IsA.cons_inv h
    rw [e, a.bool_inv, IsA.bools b]
    all_goals rfl
theorem IsA.of_ints {H : Hp} : ∀ ns : List Int, IsA H (ns.map PyData.int) (ns.map V.int)
  | [] => .nil
  | n :: ns => .cons (.int n) (IsA.of_ints ns)
theorem IsA.of_strs {H : Hp} : ∀ ns : List Str, IsA H (ns.map PyData.str) (ns.map V.str)
  | [] => .nil
  | n :: ns => .cons (.str n) (IsA.of_strs ns)
theorem IsA.of_bools {H : Hp} : ∀ ns : List Bool, IsA H (ns.map PyData.bool) (ns.map V.bl)
  | [] => .nil
  | n :: ns => .cons (.bl n) (IsA.of_bools ns)

def del (L : Addr) (H : Hp) : Hp := fun b => if b = L then none else H b
def hol : List Addr → Hp → Hp
  | [], H => H
  | L :: M, H => hol M (del L H)
theorem del_some {L b : Addr} {H : Hp} {o : HO} : del L H b = some o ↔ b ≠ L ∧ H b = some o := by
  unfold del
  by_cases e : b = L
  · rw [if_pos e]
    exact ⟨fun h => (nomatch h), fun h => absurd e h.1⟩
  · rw [if_neg e]
    exact ⟨fun h => ⟨e, h⟩, fun h => h.2⟩
theorem hol_some {b : Addr} {o : HO} : ∀ {M : List Addr} {H : Hp}, hol M H b = some o ↔ b ∉ M ∧ H b = some o
  | [], H => by simp [hol]
  | L :: M, H => by
    show hol M (del L H) b = some o ↔ _
    rw [hol_some, del_some]
    simp only [List.mem_cons, not_or]
    constructor
    · rintro ⟨a, c, d⟩; exact ⟨⟨c, a⟩, d⟩
    · rintro ⟨⟨c, a⟩, d⟩; exact ⟨a, c, d⟩
theorem Same.new {H : Hp} {p : Addr} {o : HO} (h : H p = none) : Same H (upd H p o) := fun a u e => by
  rw [upd_ne (ne_of_none e h)]
  exact e
theorem Same.on {A B C : Hp} (a : Same A B) (b : Same B C) : Same A C := a.trans b
theorem same_hol {M : List Addr} {H H' : Hp} (e : Same H H') : Same (hol M H) (hol M H') := fun b o h => by
  obtain ⟨h1, h2⟩ := hol_some.mp h
  exact hol_some.mpr ⟨h1, e b o h2⟩
theorem hol_le {M : List Addr} {H : Hp} : Same (hol M H) H := fun b o h => (hol_some.mp h).2
theorem hol_sub {L : Addr} {M : List Addr} {H : Hp} : Same (hol (L :: M) H) (hol M H) := fun b o h => by
  obtain ⟨h1, h2⟩ := hol_some.mp h
  exact hol_some.mpr ⟨fun m => h1 (List.mem_cons_of_mem _ m), h2⟩
theorem hol_weak {N M : List Addr} {H H' : Hp} (hs : ∀ a ∈ N, a ∈ M) (e : Same (hol N H) (hol N H')) : Same (hol M H) (hol M H') := fun b o h => by
  obtain ⟨h1, h2⟩ := hol_some.mp h
  exact hol_some.mpr ⟨h1, (hol_some.mp (e b o (hol_some.mpr ⟨fun m => h1 (hs b m), h2⟩))).2⟩
theorem hol_mut {L : Addr} {M : List Addr} {H : Hp} {o : HO} (h : H L = none) : Same (hol M H) (hol (L :: M) (upd H L o)) := fun b u e => by
  obtain ⟨h1, h2⟩ := hol_some.mp e
  have ne : b ≠ L := ne_of_none h2 h
  refine hol_some.mpr ⟨fun m => ?_, by rw [upd_ne ne]; exact h2⟩
  rcases List.mem_cons.mp m with q | q
  · exact ne q
  · exact h1 q
theorem hol_upd {L : Addr} {M : List Addr} {H : Hp} {o : HO} (h : L ∈ M) : Same (hol M H) (hol M (upd H L o)) := fun b u e => by
  obtain ⟨h1, h2⟩ := hol_some.mp e
  exact hol_some.mpr ⟨h1, by rw [upd_ne (fun q : b = L => h1 (by rw [q]; exact h))]; exact h2⟩
theorem same1 {M : List Addr} {L : Addr} {A B : Hp} (h : Same A (hol [L] B)) : Same (hol M A) (hol (L :: M) B) := same_hol (M := M) h
theorem same2 {M : List Addr} {L L' : Addr} {A B : Hp} (h : Same A (hol [L, L'] B)) : Same (hol M A) (hol (L :: L' :: M) B) := same_hol (M := M) h
def Dom (M : List Addr) (H : Hp) : Prop := ∀ m ∈ M, ∃ o, H m = some o
theorem Dom.nil {H : Hp} : Dom [] H := fun m h => by simp at h
theorem Dom.cons {H : Hp} {L : Addr} {M : List Addr} {o : HO} (h : H L = some o) (d : Dom M H) : Dom (L :: M) H := fun m hm => by
  rcases List.mem_cons.mp hm with q | q
  · rw [q]; exact ⟨o, h⟩
  · exact d m q
theorem Dom.mono {H H' : Hp} {M : List Addr} (e : Same H H') (d : Dom M H) : Dom M H' := fun m hm => by
  obtain ⟨o, h⟩ := d m hm
  exact ⟨o, e _ _ h⟩
theorem Dom.upd {H : Hp} {M : List Addr} {L : Addr} {o : HO} (d : Dom M H) : Dom M (upd H L o) := fun m hm => by
  by_cases e : m = L
  · rw [e]; exact ⟨o, upd_same⟩
  · obtain ⟨u, h⟩ := d m hm
    exact ⟨u, by rw [upd_ne e]; exact h⟩
theorem Dom.not {H : Hp} {M : List Addr} {q : Addr} (d : Dom M H) (h : H q = none) : q ∉ M := fun m => by
  obtain ⟨o, e⟩ := d q m
  rw [h] at e
  cases e
structure Cur (M : List Addr) : Prop where
  t : True
theorem cur (M : List Addr) : Cur M := ⟨trivial⟩

structure Cal (P : Program) (w : World) (K : PySem.W.Frag) (mg : Str → Option Value) (base : Heap) (k : Nat) (x : Str) (sp : Sp) : Prop where
  ex : ∃ (f : Addr) (fd : FuncData) (ps : List Str), FnOk P w K mg base CX0 k f fd ps sp ∧ mg x = some (.ref f) ∧ PySem.W.keepIn K (.ref f) = true ∧ Binds K fd ps []
structure Met (P : Program) (w : World) (K : PySem.W.Frag) (mg : Str → Option Value) (base : Heap) (k : Nat) (C : Addr) (m : Str) (sp : Sp) : Prop where
  ex : ∃ (f : Addr) (fd : FuncData) (ps : List Str), Cls K C ∧ Meth K C m f ∧ FnOk P w K mg base CX0 k f fd ps sp ∧ Binds K fd ps []
structure Mak (P : Program) (w : World) (K : PySem.W.Frag) (mg : Str → Option Value) (base : Heap) (k : Nat) (x : Str) (C : Addr) (sp : Sp) : Prop where
  ex : ∃ (f : Addr) (fd : FuncData) (ps : List Str), Mk K C f ∧ FnOk P w K mg base CX0 k f fd ps sp ∧ mg x = some (.ref C) ∧ Binds K fd ps []
section
variable {X : Cx} {x : Str} {k j : Nat} {C : Addr} {m : Str} {sp : Sp} {e o : Expr} {es : List Expr} {p pos apos : Pos} {t : TA} {ta : TE}
theorem pe_cl (c : Cal X.prog X.w X.K X.mg X.base k x sp) (hr : Room j X.A) (hk : k ≤ j) (hg : Gl X x) (ha : PA X (e :: es) t)
    (hdb : (x == ("__debug__" : Str)) = false := by decide) (he : starEach (e :: es) X.env = (false, eval e X.env) :: starEach es X.env := by rfl) (hpl : (backTo pos (starEach es X.env)).any (·.1) = false := by rfl) :
    PE X (.Call (.Name x p) (e :: es) [] pos) (tCall sp [] E0 t) := by
  obtain ⟨f, fd, ps, F, hm, kp, b⟩ := c.ex
  exact pe_call F (hr.mono hk) hg hm kp b .nil pass0 ha hdb he hpl
theorem pe_mk (c : Mak X.prog X.w X.K X.mg X.base k x C sp) (hr : Room j X.A) (hk : k + 1 ≤ j) (hg : Gl X x) (ha : PA X (e :: es) t)
    (hdb : (x == ("__debug__" : Str)) = false := by decide) (he : starEach (e :: es) X.env = (false, eval e X.env) :: starEach es X.env := by rfl) (hpl : (backTo pos (starEach es X.env)).any (·.1) = false := by rfl) :
    PE X (.Call (.Name x p) (e :: es) [] pos) (tMake C sp [] E0 t) := by
  obtain ⟨f, fd, ps, M, F, hm, b⟩ := c.ex
  exact pe_make M F (hr.mono hk) hg hm b .nil pass0 ha hdb he hpl
end

section
variable {X : Cx} {x : Str} {k j : Nat} {C : Addr} {m : Str} {sp : Sp} {e o : Expr} {es : List Expr} {p pos apos : Pos} {t : TA} {ta : TE}
theorem pe_mt {pl : Sem Bool} (c : Met X.prog X.w X.K X.mg X.base k C m sp) (hr : Room j X.A) (hk : k ≤ j) (he : PE X o ta) (ha : PA X (e :: es) t)
    (hst : starEach (e :: es) X.env = (false, eval e X.env) :: starEach es X.env := by rfl) (hpl : (backTo pos (starEach es X.env)).any (·.1) = false := by rfl)
    (ht : eval (.Call (.Attribute o m apos) (e :: es) [] pos) X.env = (do
      let ov ← eval o X.env
      standAt apos.atName
      let (f, first) ← holding [ov] (getMethod ov m pl)
      callWith pos f first (backTo pos (starEach (e :: es) X.env)) (backToKw pos (keywordEach [] X.env))) := by rfl) :
    PE X (.Call (.Attribute o m apos) (e :: es) [] pos) (tMeth C m sp [] E0 ta t) := by
  obtain ⟨f, fd, ps, cl, hm, F, b⟩ := c.ex
  exact pe_meth he cl hm F (hr.mono hk) b .nil pass0 ha hst hpl ht
theorem pe_mt0 {pl : Sem Bool} (c : Met X.prog X.w X.K X.mg X.base k C m sp) (hr : Room j X.A) (hk : k ≤ j) (he : PE X o ta)
    (ht : eval (.Call (.Attribute o m apos) [] [] pos) X.env = (do
      let ov ← eval o X.env
      standAt apos.atName
      let (f, first) ← holding [ov] (getMethod ov m pl)
      callWith pos f first (backTo pos (starEach [] X.env)) (backToKw pos (keywordEach [] X.env))) := by rfl) :
    PE X (.Call (.Attribute o m apos) [] [] pos) (tMeth C m sp [] E0 ta tNil) := by
  obtain ⟨f, fd, ps, cl, hm, F, b⟩ := c.ex
  exact pe_meth0 he cl hm F (hr.mono hk) b .nil pass0 ht
end
def tCut (t u : TS) : TS := fun D σ H => ∃ Mid : L2.St → Hp → Prop, t { D with nx := Mid } σ H ∧ ∀ σ' H', Mid σ' H' → u D σ' H'
theorem pss_cut {X : Cx} {st : Stmt} {rest : List Stmt} {t u : TS} (h1 : PS X st t) (h2 : PSs X rest u) : PSs X (st :: rest) (tCut t u) := by
  refine ⟨fun pins s σ H D I h => ?_⟩
  obtain ⟨Mid, hm, hu⟩ := h
  refine wpAny_execs_cons (thn (h1.run pins s σ H { D with nx := Mid } I hm) fun f s1 q => ?_)
  cases f with
  | next =>
    obtain ⟨σ', H', I', q⟩ := q
    exact h2.run pins s1 σ' H' D I' (hu σ' H' q)
  | ret v => exact q
  | brk => exact q
  | cont => exact q

def rLenQ (K : PySem.W.Frag) : List V → Hp → VK → Prop := fun xs H Q => ∃ p ys, xs = [.ref p] ∧ (SqL K H p ys ∨ SqT K H p ys) ∧ Q (.int ys.length) H
theorem cr_len {X : Cx} : CallR X (.builtin "len") (rLenQ X.K) := call_len_seq
def rListQ (K : PySem.W.Frag) : List V → Hp → VK → Prop := fun xs H Q => ∃ p ys, xs = [.ref p] ∧ (SqL K H p ys ∨ SqT K H p ys) ∧ ∀ l, H l = none → Q (.ref l) (upd H l (.lst ys))
theorem cr_list {X : Cx} : CallR X (.type "list") (rListQ X.K) := call_list_of
def rTupQ (K : PySem.W.Frag) : List V → Hp → VK → Prop := fun xs H Q => ∃ p ys, xs = [.ref p] ∧ ((SqL K H p ys ∧ ∀ l, H l = none → Q (.ref l) (upd H l (.tup ys))) ∨ (SqT K H p ys ∧ Q (.ref p) H))
theorem cr_tuple {X : Cx} : CallR X (.type "tuple") (rTupQ X.K) := call_tuple_of
def rIntQ : List V → Hp → VK → Prop := fun xs H Q => (∃ i, xs = [.int i] ∧ Q (.int i) H) ∨ ∃ k, xs = [.bl k] ∧ Q (.int (if k then 1 else 0)) H
theorem cr_int {X : Cx} : CallR X (.type "int") rIntQ := call_int1
def rStrQ : List V → Hp → VK → Prop := fun xs H Q => ∃ i, xs = [.int i] ∧ i.natAbs.log2 < 1920 ∧ Q (.str (toString i)) H
theorem cr_str {X : Cx} : CallR X (.type "str") rStrQ := call_str_int
def rAddS : R2 := fun x y H Q => ∃ i j, x = .str i ∧ y = .str j ∧ i.length + j.length ≤ sizeLine ∧ Q (.str (i ++ j)) H
theorem op_addS {X : Cx} : OpR X (binaryOp .Add) rAddS := op_add_str
def tTru (K : PySem.W.Frag) (ta : TE) : TT := fun σ H Q => ta σ H fun x H' => ∃ k, TruV K x H' k ∧ Q k H'
theorem pt_tru {X : Cx} {a : Expr} {ta : TE} (ha : PE X a ta) (he : ∀ whole, isTrue a X.env whole = (do let v ← whole; standAt a.pos; holding [v] (truthy v)) := by intro _; rfl) : PT X a (tTru X.K ta) := pt_truth ha he

def TupK (xs : List V) (H : Hp) (Q : VK) : Prop := xs.length ≤ sizeLine ∧ ∀ p, H p = none → Q (.ref p) (upd H p (.tup xs))
def LstK (xs : List V) (H : Hp) (Q : VK) : Prop := xs.length ≤ sizeLine ∧ ∀ p, H p = none → Q (.ref p) (upd H p (.lst xs))
def BlK (x : V) (H : Hp) (QB : Bool → Hp → Prop) : Prop := ∃ k, x = .bl k ∧ QB k H
def IntK (x : V) (H : Hp) (QO : Option Int → Hp → Prop) : Prop := ∃ i, x = .int i ∧ QO (some i) H
def TruK (K : PySem.W.Frag) (x : V) (H : Hp) (QB : Bool → Hp → Prop) : Prop := ∃ k, TruV K x H k ∧ QB k H
def MethK (C : Addr) (m : Str) (sp : Sp) (E : XK) (tA : TA) (σ : L2.St) (x : V) (H1 : Hp) (Q : VK) : Prop := ∃ a dx fs, x = .ref a ∧ H1 a = some (.ins C dx fs) ∧ fs.lookup m = none ∧ tA σ H1 fun vs H2 => sp (x :: vs) H2 Q E
def MakeK (C : Addr) (sp : Sp) (E : XK) (vs : List V) (H1 : Hp) (Q : VK) : Prop := ∀ x dx, H1 x = none → H1 dx = none → dx ≠ x → sp (.ref x :: vs) (upd (upd H1 dx (.own x)) x (.ins C dx [])) (fun v H2 => v = .non ∧ Q (.ref x) H2) E
def FldK (K : PySem.W.Frag) (f : Str) (x : V) (H1 : Hp) (Q : VK) : Prop := ∃ a C dx fs v, x = .ref a ∧ H1 a = some (.ins C dx fs) ∧ Cls K C ∧ NoAttr K C f ∧ fs.lookup f = some v ∧ Q v H1
def FldSK (K : PySem.W.Frag) (f : Str) (y x : V) (H2 : Hp) (P : Hp → Prop) : Prop := ∃ a C dx fs, x = .ref a ∧ H2 a = some (.ins C dx fs) ∧ Cls K C ∧ NoAttr K C f ∧ fs.length < 1000 ∧ P (upd H2 a (.ins C dx (putF f y fs)))
def DGetK (x y : V) (H : Hp) (Q : VK) : Prop := ∃ a v, x = .ref a ∧ DGet H a y (some v) ∧ Q v H
def DInK (x y : V) (H : Hp) (Q : VK) : Prop := ∃ a o, x = .ref a ∧ DGet H a y o ∧ Q (.bl o.isSome) H
def DNotK (x y : V) (H : Hp) (Q : VK) : Prop := ∃ a o, x = .ref a ∧ DGet H a y o ∧ Q (.bl (!o.isSome)) H
def DPutK (v x y : V) (H : Hp) (P : Hp → Prop) : Prop := ∃ a H4, x = .ref a ∧ DPut H a y v H4 ∧ P H4
def AndK (tb : TE) (σ : L2.St) (x : V) (H1 : Hp) (Q : VK) : Prop := ∃ c, x = .bl c ∧ if c = true then tb σ H1 Q else Q (.bl false) H1
def OrK (tb : TE) (σ : L2.St) (x : V) (H1 : Hp) (Q : VK) : Prop := ∃ c, x = .bl c ∧ if c = true then Q (.bl true) H1 else tb σ H1 Q
def NotK (x : V) (H1 : Hp) (Q : VK) : Prop := ∃ c, x = .bl c ∧ Q (.bl (!c)) H1
def LcK (J : It) (g : TG) (tt : TT) (te : TE) (vs : List Nat) (σ : L2.St) (H1 : Hp) (Q : VK) : Prop := ∀ D, H1 D = none → ∃ W : Nat → Nat → Hp → Prop, (∃ m, W 0 m (upd H1 D (.lst []))) ∧ ∀ i m H, W i m H →
  (J.stop i H ∧ Q (.ref D) H) ∨ (J.go i H ∧ ∃ Nx : Hp → Prop, (∀ H', Nx H' → ∃ m', m' < m ∧ W (i + 1) m' H') ∧ ∀ x H', J.yld i H x H' → g x (wipe σ vs) H' fun σ2 H2 => wipe σ2 vs = wipe σ vs ∧ tt σ2 H2 fun b H3 =>
    if b = true then te σ2 H3 fun y H4 => ∃ acc, H4 D = some (.lst acc) ∧ acc.length < sizeLine ∧ Nx (upd H4 D (.lst (acc ++ [y]))) else Nx H3)
def ForK (J : It) (g : TG) (tb : TS) (n : L2.St → Hp → Prop) (r : VK) (b c : L2.St → Hp → Prop) (σ : L2.St) (H1 : Hp) : Prop := ∃ W : Nat → Nat → L2.St → Hp → Prop, (∃ m, W 0 m σ H1) ∧ ∀ i m σ H, W i m σ H →
  (J.stop i H ∧ n σ H) ∨ (J.go i H ∧ ∃ N : L2.St → Hp → Prop, (∀ σ' H', N σ' H' → ∃ m', m' < m ∧ W (i + 1) m' σ' H') ∧ ∀ x H', J.yld i H x H' → g x σ H' fun σ2 H2 => tb ⟨N, r, n, N⟩ σ2 H2)
section
variable {K : PySem.W.Frag} {σ : L2.St} {H : Hp} {Q : VK} {ta tb te tx ty td : TE} {t u : TT} {tA tr : TA} {x y v : V} {r : R2} {i j : Int} {D : Ends}
  {n b c : L2.St → Hp → Prop} {rt : VK} {ts us : TS} {g : TG} {gs : TGs} {wi : TI} {M : List Addr} {ds es : List PyData} {d e : PyData} {a l C dx : Addr} {QB : Bool → Hp → Prop} {QL : List V → Hp → Prop} {QS : L2.St → Hp → Prop} {R : It → Hp → Prop}
theorem g_var {i : Nat} (h : σ[i]? = some (some v)) (k : Q v H) : tVar i σ H Q := ⟨v, h, k⟩
theorem g_c (k : Q v H) : tC v σ H Q := k
theorem g_op (k : ta σ H fun x H1 => tb σ H1 fun y H2 => r x y H2 Q) : tOp r ta tb σ H Q := k
theorem g_un {r : V → Hp → VK → Prop} (k : ta σ H fun x H1 => r x H1 Q) : tUn r ta σ H Q := k
theorem g_cb {r : List V → Hp → VK → Prop} (k : tA σ H fun vs H1 => r vs H1 Q) : tCB r tA σ H Q := k
theorem g_cons (k : ta σ H fun x H1 => tr σ H1 fun xs H2 => QL (x :: xs) H2) : tCons ta tr σ H QL := k
theorem g_nil (k : QL [] H) : tNil σ H QL := k
theorem g_tupE (k : tA σ H fun xs H1 => TupK xs H1 Q) : tTup tA σ H Q := k
theorem g_lstE (k : tA σ H fun xs H1 => LstK xs H1 Q) : tLst tA σ H Q := k
theorem g_call {sp : Sp} {E : XK} (k : tA σ H fun vs H1 => sp vs H1 Q E) : tCall sp [] E tA σ H Q := by
  show tA σ H fun vs H1 => sp (vs ++ []) H1 Q E
  simpa only [List.append_nil] using k
theorem g_meth {m : Str} {sp : Sp} {E : XK} (k : ta σ H fun x H1 => MethK C m sp E tA σ x H1 Q) : tMeth C m sp [] E ta tA σ H Q := by
  show ta σ H fun x H1 => ∃ a dx fs, x = .ref a ∧ H1 a = some (.ins C dx fs) ∧ fs.lookup m = none ∧ tA σ H1 fun vs H2 => sp (x :: (vs ++ [])) H2 Q E
  simpa only [List.append_nil, MethK] using k
theorem g_methK {m : Str} {sp : Sp} {E : XK} {fs : List (Str × V)} (h : H a = some (.ins C dx fs)) (l : fs.lookup m = none) (k : tA σ H fun vs H2 => sp (.ref a :: vs) H2 Q E) :
    MethK C m sp E tA σ (.ref a) H Q := ⟨a, dx, fs, rfl, h, l, k⟩
theorem g_make {sp : Sp} {E : XK} (k : tA σ H fun vs H1 => MakeK C sp E vs H1 Q) : tMake C sp [] E tA σ H Q := by
  show tA σ H fun vs H1 => ∀ x dx, H1 x = none → H1 dx = none → dx ≠ x → sp (.ref x :: (vs ++ [])) (upd (upd H1 dx (.own x)) x (.ins C dx [])) (fun v H2 => v = .non ∧ Q (.ref x) H2) E
  simpa only [List.append_nil, MakeK] using k
theorem g_fld {f : Str} (k : ta σ H fun x H1 => FldK K f x H1 Q) : tFld K ta f σ H Q := k
theorem g_fldK {f : Str} {fs : List (Str × V)} (h : H a = some (.ins C dx fs)) (cl : Cls K C) (na : NoAttr K C f) (l : fs.lookup f = some v) (k : Q v H) :
    FldK K f (.ref a) H Q := ⟨a, C, dx, fs, v, rfl, h, cl, na, l, k⟩
theorem g_sl {r : V → Option Int → Option Int → Hp → VK → Prop} {tl th : TO} (k : ta σ H fun x H1 => tl σ H1 fun l H2 => th σ H2 fun u H3 => r x l u H3 Q) : tSl r ta tl th σ H Q := k
theorem g_part {QO : Option Int → Hp → Prop} (k : ta σ H fun x H1 => IntK x H1 QO) : tPart ta σ H QO := k
theorem g_int {QO : Option Int → Hp → Prop} (k : QO (some i) H) : IntK (.int i) H QO := ⟨i, rfl, k⟩
theorem g_nopart {QO : Option Int → Hp → Prop} (k : QO none H) : tNoPart σ H QO := k
theorem g_bm {T : String} {r : V → List V → Hp → VK → Prop} (k : ta σ H fun x H1 => tyV K T x H1 ∧ tA σ H1 fun xs H2 => r x xs H2 Q) : tBM K T r ta tA σ H Q := k
theorem g_bm0 {T : String} {r : V → List V → Hp → VK → Prop} (k : ta σ H fun x H1 => tyV K T x H1 ∧ r x [] H1 Q) : tBM0 K T r ta σ H Q := k
theorem g_ty {P : Prop} {xs : List V} (h : H l = some (.lst xs)) (k : P) : tyV K "list" (.ref l) H ∧ P := ⟨.inl ⟨rfl, xs, .inl (.inl h)⟩, k⟩
theorem g_if (k : t σ H fun c H1 => if c = true then ta σ H1 Q else tb σ H1 Q) : tIf t ta tb σ H Q := k
theorem g_isN (k : ta σ H fun x H1 => Q (.bl (decide (x = .non))) H1) : tIsN ta σ H Q := k
theorem g_notN (k : ta σ H fun x H1 => Q (.bl (!decide (x = .non))) H1) : tNotN ta σ H Q := k
theorem g_andV (k : ta σ H fun x H1 => AndK tb σ x H1 Q) : tAndV ta tb σ H Q := k
theorem g_orV (k : ta σ H fun x H1 => OrK tb σ x H1 Q) : tOrV ta tb σ H Q := k
theorem g_notV (k : ta σ H fun x H1 => NotK x H1 Q) : tNotV ta σ H Q := k
theorem g_bl {z : Bool} (k : QB z H) : BlK (.bl z) H QB := ⟨z, rfl, k⟩
theorem g_andK {z : Bool} (k : if z = true then tb σ H Q else Q (.bl false) H) : AndK tb σ (.bl z) H Q := ⟨z, rfl, k⟩
theorem g_orK {z : Bool} (k : if z = true then Q (.bl true) H else tb σ H Q) : OrK tb σ (.bl z) H Q := ⟨z, rfl, k⟩
theorem g_notK {z : Bool} (k : Q (.bl (!z)) H) : NotK (.bl z) H Q := ⟨z, rfl, k⟩
theorem g_lc {tt : TT} {vs : List Nat} (k : wi σ H fun J H1 => LcK J g tt te vs σ H1 Q) : tLc wi g tt te vs σ H Q := k
theorem g_dget (k : td σ H fun x H1 => ty σ H1 fun y H2 => DGetK x y H2 Q) : tDGet td ty σ H Q := k
theorem g_din (k : ty σ H fun y H1 => td σ H1 fun x H2 => DInK x y H2 Q) : tDIn ty td σ H Q := k
theorem g_dnotin (k : ty σ H fun y H1 => td σ H1 fun x H2 => DNotK x y H2 Q) : tDNotIn ty td σ H Q := k
theorem g_dgetK {k : Key} {kvs : List (Key × V)} (h : Rd H a (.dK kvs)) (e : valV kvs k = some v) (q : Q v H) : DGetK (.ref a) (kV k) H Q := ⟨a, v, rfl, .inl ⟨kvs, k, h, rfl, e.symm⟩, q⟩
theorem g_dinK {k : Key} {kvs : List (Key × V)} (h : Rd H a (.dK kvs)) (q : Q (.bl (valV kvs k).isSome) H) : DInK (.ref a) (kV k) H Q := ⟨a, _, rfl, .inl ⟨kvs, k, h, rfl, rfl⟩, q⟩
theorem g_dnotinK {k : Key} {kvs : List (Key × V)} (h : Rd H a (.dK kvs)) (q : Q (.bl (!(valV kvs k).isSome)) H) : DNotK (.ref a) (kV k) H Q := ⟨a, _, rfl, .inl ⟨kvs, k, h, rfl, rfl⟩, q⟩
theorem g_dnew (k : ∀ p, H p = none → Q (.ref p) (upd H p (.dK []))) : tDNewK σ H Q := k
theorem g_test (k : ta σ H fun x H' => BlK x H' QB) : tTest ta σ H QB := k
theorem g_B (k : ta σ H fun x H' => BlK x H' QB) : tB ta σ H QB := k
theorem g_and (k : t σ H fun c H1 => if c = true then u σ H1 QB else QB false H1) : tAnd t u σ H QB := k
theorem g_or (k : t σ H fun c H1 => if c = true then QB true H1 else u σ H1 QB) : tOr t u σ H QB := k
theorem g_not (k : t σ H fun c H1 => QB (!c) H1) : tNot t σ H QB := k
theorem g_yes (k : QB true H) : tYes σ H QB := k
theorem g_tru (k : ta σ H fun x H' => TruK K x H' QB) : tTru K ta σ H QB := k
theorem g_seq (k : ts ⟨us ⟨n, rt, b, c⟩, rt, b, c⟩ σ H) : tSeq ts us ⟨n, rt, b, c⟩ σ H := k
theorem g_asg (k : ta σ H fun x H1 => g x σ H1 n) : tAsg ta g ⟨n, rt, b, c⟩ σ H := k
theorem g_drop (k : ta σ H fun _ H1 => n σ H1) : tDrop ta ⟨n, rt, b, c⟩ σ H := k
theorem g_ret (k : ta σ H rt) : tRet ta ⟨n, rt, b, c⟩ σ H := k
theorem g_retN (k : rt .non H) : tRetN ⟨n, rt, b, c⟩ σ H := k
theorem g_ifS (k : t σ H fun z H1 => if z = true then ts ⟨n, rt, b, c⟩ σ H1 else us ⟨n, rt, b, c⟩ σ H1) : tIfS t ts us ⟨n, rt, b, c⟩ σ H := k
theorem g_next (k : n σ H) : tNext ⟨n, rt, b, c⟩ σ H := k
theorem g_break (k : b σ H) : tBreak ⟨n, rt, b, c⟩ σ H := k
theorem g_for (k : wi σ H fun J H1 => ForK J g ts n rt b c σ H1) : tFor wi g ts ⟨n, rt, b, c⟩ σ H := k
theorem g_cut (Mid : L2.St → Hp → Prop) (k : ts ⟨Mid, rt, b, c⟩ σ H) (q : ∀ σ' H', Mid σ' H' → us ⟨n, rt, b, c⟩ σ' H') : tCut ts us ⟨n, rt, b, c⟩ σ H := ⟨Mid, k, q⟩
theorem g_name {i : Nat} {σ' : L2.St} (e : σ.set i (some v) = σ') (k : QS σ' H) : gName i v σ H QS := by
  show QS (σ.set i (some v)) H
  rw [e]
  exact k
theorem g_consT {tg : TG} {tu : TGs} {vs : List V} (k : tg v σ H fun σ' H' => tu vs σ' H' QS) : gCons tg tu (v :: vs) σ H QS := ⟨v, vs, rfl, k⟩
theorem g_nilT (k : QS σ H) : gNil [] σ H QS := ⟨rfl, k⟩
theorem g_tupT {nn : Nat} (cu : Cur M) (h : Is (hol M H) (.tuple ds) x) (e : ds.length = nn) (k : ∀ xs, IsA (hol M H) ds xs → gs xs σ H QS) : gTup K nn gs x σ H QS := by
  obtain ⟨a, xs, rfl, h1, h2⟩ := h.tup_inv
  exact ⟨a, xs, rfl, .inl (.inl (hol_le _ _ h1)), by rw [h2.len, e], k xs h2⟩
theorem g_fldS {f : Str} {tv : TE} (k : tv σ H fun y H1 => ta σ H1 fun x H2 => FldSK K f y x H2 fun H3 => n σ H3) : sFld K ta tv f ⟨n, rt, b, c⟩ σ H := k
theorem g_fldSK {f : Str} {fs : List (Str × V)} {P : Hp → Prop} (h : H a = some (.ins C dx fs)) (cl : Cls K C) (na : NoAttr K C f) (hl : fs.length < 1000) (k : P (upd H a (.ins C dx (putF f y fs)))) :
    FldSK K f y (.ref a) H P := ⟨a, C, dx, fs, rfl, h, cl, na, hl, k⟩
theorem g_dput {tv : TE} (k : tv σ H fun v H1 => td σ H1 fun x H2 => ty σ H2 fun y H3 => DPutK v x y H3 fun H4 => n σ H4) : sDPut td ty tv ⟨n, rt, b, c⟩ σ H := k
theorem g_dputK {k : Key} {kvs : List (Key × V)} {P : Hp → Prop} (h : H a = some (.dK kvs)) (hl : kvs.length < 100000) (q : P (upd H a (.dK (putK kvs k v)))) : DPutK v (.ref a) (kV k) H P :=
  ⟨a, _, rfl, .k h (Nat.lt_of_lt_of_le hl (by decide)), q⟩
theorem g_sub {to ti : TE} {tset : TSet} (k : to σ H fun o H1 => ti σ H1 fun i H2 => tset o i v H2 fun H3 => QS σ H3) : gSub to ti tset v σ H QS := k
theorem g_setL {xs : List V} {j : Nat} {P : Hp → Prop} (h : H l = some (.lst xs)) (hj : ixN xs.length i = some j) (q : P (upd H l (.lst (xs.set j v)))) : rSetL (.ref l) (.int i) v H P := ⟨l, xs, i, j, rfl, rfl, h, hj, q⟩
theorem g_I0 {f : Int → Int → V} (k : Q (f i j) H) : rI0 f (.int i) (.int j) H Q := ⟨i, j, rfl, rfl, k⟩
theorem g_I {f : Int → Int → V} {CC : Int → Int → Prop} (hc : CC i j) (k : Q (f i j) H) : rI CC f (.int i) (.int j) H Q := ⟨i, j, rfl, rfl, hc, k⟩
theorem g_U {f : Int → V} (k : Q (f i) H) : rU f (.int i) H Q := ⟨i, rfl, k⟩
theorem g_ixT (cu : Cur M) (h : Is (hol M H) (.tuple ds) x) (e : atI ds i = some d) (k : ∀ v, Is (hol M H) d v → Q v H) : rIxT K x (.int i) H Q := by
  obtain ⟨a, xs, rfl, h1, h2⟩ := h.tup_inv
  obtain ⟨j, e1, e2⟩ := Option.bind_eq_some_iff.mp (show (ixN ds.length i).bind (fun j => ds[j]?) = some d from e)
  obtain ⟨v, h3, h4⟩ := h2.get e2
  refine ⟨a, xs, i, v, rfl, rfl, .inl (.inl (hol_le _ _ h1)), ?_, k v h4⟩
  show (ixN xs.length i).bind (fun j => xs[j]?) = some v
  rw [h2.len, e1]
  exact h3
theorem g_ixL (cu : Cur M) (h : Is (hol M H) (.list ds) x) (e : atI ds i = some d) (k : ∀ v, Is (hol M H) d v → Q v H) : rIxL K x (.int i) H Q := by
  obtain ⟨a, xs, rfl, h1, h2⟩ := h.lst_inv
  obtain ⟨j, e1, e2⟩ := Option.bind_eq_some_iff.mp (show (ixN ds.length i).bind (fun j => ds[j]?) = some d from e)
  obtain ⟨v, h3, h4⟩ := h2.get e2
  refine ⟨a, xs, i, v, rfl, rfl, .inl (.inl (hol_le _ _ h1)), ?_, k v h4⟩
  show (ixN xs.length i).bind (fun j => xs[j]?) = some v
  rw [h2.len, e1]
  exact h3
theorem g_ixM {xs : List V} (h : H l = some (.lst xs)) (e : atI xs i = some v) (k : Q v H) : rIxL K (.ref l) (.int i) H Q := ⟨l, xs, i, v, rfl, rfl, .inl (.inl h), e, k⟩
theorem g_lenL (cu : Cur M) (h : Is (hol M H) (.list ds) x) (k : Q (.int ds.length) H) : rLenQ K [x] H Q := by
  obtain ⟨a, xs, rfl, h1, h2⟩ := h.lst_inv
  exact ⟨a, xs, rfl, .inl (.inl (.inl (hol_le _ _ h1))), by rw [h2.len]; exact k⟩
theorem g_lenT (cu : Cur M) (h : Is (hol M H) (.tuple ds) x) (k : Q (.int ds.length) H) : rLenQ K [x] H Q := by
  obtain ⟨a, xs, rfl, h1, h2⟩ := h.tup_inv
  exact ⟨a, xs, rfl, .inr (.inl (.inl (hol_le _ _ h1))), by rw [h2.len]; exact k⟩
theorem g_lenM {xs : List V} (h : H l = some (.lst xs)) (k : Q (.int xs.length) H) : rLenQ K [.ref l] H Q := ⟨l, xs, rfl, .inl (.inl (.inl h)), k⟩
theorem g_int1 (k : Q (.int i) H) : rIntQ [.int i] H Q := .inl ⟨i, rfl, k⟩
theorem g_str (h : 0 ≤ i ∧ i < 1000) (k : Q (.str (toString i)) H) : rStrQ [.int i] H Q := ⟨i, rfl, by
  have h1 : i.natAbs < 2 ^ 10 := by omega
  have := PySem.Flt.log2_lt_of (by decide : 0 < 10) h1
  omega, k⟩
theorem new_tup {xs : List V} {p : Addr} (dm : Dom M H) (h : IsA (hol M H) ds xs) (hp : H p = none) : Is (hol M (upd H p (.tup xs))) (.tuple ds) (.ref p) :=
  .tup (hol_some.mpr ⟨dm.not hp, upd_same⟩) (h.mono (same_hol (Same.new hp)))
theorem new_lst {xs : List V} {p : Addr} (dm : Dom M H) (h : IsA (hol M H) ds xs) (hp : H p = none) : Is (hol M (upd H p (.lst xs))) (.list ds) (.ref p) :=
  .lst (hol_some.mpr ⟨dm.not hp, upd_same⟩) (h.mono (same_hol (Same.new hp)))
theorem small {n : Nat} (h : n < 100000) : n ≤ sizeLine := Nat.le_trans (Nat.le_of_lt h) (by decide)
theorem g_tupK {xs : List V} (cu : Cur M) (dm : Dom M H) (h : IsA (hol M H) ds xs) (hl : ds.length < 100000) (k : ∀ v H', Same H H' → Is (hol M H') (.tuple ds) v → Q v H') : TupK xs H Q :=
  ⟨by rw [h.len]; exact small hl, fun p hp => k _ _ (Same.new hp) (new_tup dm h hp)⟩
theorem g_lstK {xs : List V} (cu : Cur M) (dm : Dom M H) (h : IsA (hol M H) ds xs) (hl : ds.length < 100000) (k : ∀ v H', Same H H' → Is (hol M H') (.list ds) v → Q v H') : LstK xs H Q :=
  ⟨by rw [h.len]; exact small hl, fun p hp => k _ _ (Same.new hp) (new_lst dm h hp)⟩
theorem g_lstM {xs : List V} (cu : Cur M) (hl : xs.length < 100000) (k : ∀ p H', H p = none → Same H H' → H' p = some (.lst xs) → Same (hol M H) (hol (p :: M) H') → Same H (hol [p] H') → Q (.ref p) H') : LstK xs H Q :=
  ⟨small hl, fun p hp => k p _ hp (Same.new hp) upd_same (hol_mut hp) (hol_mut (M := []) hp)⟩
theorem g_dnewM (cu : Cur M) (k : ∀ p H', H p = none → Same H H' → H' p = some (.dK []) → Same (hol M H) (hol (p :: M) H') → Same H (hol [p] H') → Q (.ref p) H') : tDNewK σ H Q :=
  fun p hp => k p _ hp (Same.new hp) upd_same (hol_mut hp) (hol_mut (M := []) hp)
theorem g_listOf (cu : Cur M) (dm : Dom M H) (h : Is (hol M H) (.list ds) x ∨ Is (hol M H) (.tuple ds) x) (k : ∀ v H', Same H H' → Is (hol M H') (.list ds) v → Q v H') : rListQ K [x] H Q := by
  rcases h with h | h
  · obtain ⟨a, xs, rfl, h1, h2⟩ := h.lst_inv
    exact ⟨a, xs, rfl, .inl (.inl (.inl (hol_le _ _ h1))), fun l hl => k _ _ (Same.new hl) (new_lst dm h2 hl)⟩
  · obtain ⟨a, xs, rfl, h1, h2⟩ := h.tup_inv
    exact ⟨a, xs, rfl, .inr (.inl (.inl (hol_le _ _ h1))), fun l hl => k _ _ (Same.new hl) (new_lst dm h2 hl)⟩
theorem g_tupOf (cu : Cur M) (dm : Dom M H) (h : Is (hol M H) (.list ds) x) (k : ∀ v H', Same H H' → Is (hol M H') (.tuple ds) v → Q v H') : rTupQ K [x] H Q := by
  obtain ⟨a, xs, rfl, h1, h2⟩ := h.lst_inv
  exact ⟨a, xs, rfl, .inl ⟨.inl (.inl (hol_le _ _ h1)), fun l hl => k _ _ (Same.new hl) (new_tup dm h2 hl)⟩⟩
theorem g_cat (cu : Cur M) (dm : Dom M H) (h : Is (hol M H) (.list ds) x) (h' : Is (hol M H) (.list es) y) (hz : ds.length + es.length < 100000) (k : ∀ v H', Same H H' → Is (hol M H') (.list (ds ++ es)) v → Q v H') : rCat x y H Q := by
  obtain ⟨a, xs, rfl, h1, h2⟩ := h.lst_inv
  obtain ⟨a', xs', rfl, h1', h2'⟩ := h'.lst_inv
  exact ⟨a, a', xs, xs', rfl, rfl, hol_le _ _ h1, hol_le _ _ h1', by rw [h2.len, h2'.len]; exact small hz, fun p hp => k _ _ (Same.new hp) (new_lst dm (h2.app h2') hp)⟩
theorem g_addS {s z : Str} (hz : s.length + z.length < 100000) (k : Q (.str (s ++ z)) H) : rAddS (.str s) (.str z) H Q := ⟨s, z, rfl, rfl, small hz, k⟩
theorem g_append {xs : List V} (h : H l = some (.lst xs)) (hz : xs.length < 100000) (k : Q .non (upd H l (.lst (xs ++ [v])))) : rAppend (.ref l) [v] H Q := ⟨l, xs, v, rfl, rfl, h, Nat.lt_of_lt_of_le hz (by decide), k⟩
theorem g_eq (h : scal x y = true) (k : Q (.bl (decide (x = y))) H) : rEq x y H Q := ⟨h, k⟩
theorem g_ne (h : scal x y = true) (k : Q (.bl (!decide (x = y))) H) : rNe x y H Q := ⟨h, k⟩
theorem g_ite {p q : Prop} {z : Bool} (h1 : z = true → p) (h2 : z = false → q) : if z = true then p else q := by
  cases z with
  | true => exact h1 rfl
  | false => exact h2 rfl
theorem g_iteT {p q : Prop} (h : p) : if true = true then p else q := h
theorem g_iteF {p q : Prop} (h : q) : if false = true then p else q := h
end
end Sg
namespace Sg
open PySem PySem.Spec PyProof.Rows L2

def Src (J : It) (B : Hp) (ds : List PyData) : Prop :=
  Walk J ds.length (fun H => Same B H) fun i H x H' => Same H H' ∧ ∀ d M, ds[i]? = some d → Dom M H → Same B (hol M H) → Is (hol M H') d x
section
variable {K : PySem.W.Frag} {B : Hp} {a b : Addr} {xs ys : List V} {ds es : List PyData}
theorem src_list (h : B a = some (.lst xs)) (r : IsA B ds xs) : Src (Itl K a) B ds := by
  have e := r.len
  have w := (walk_list (K := K) (a := a) (xs := xs)).mono (G' := fun H => Same B H) (Y' := fun i H x H' => Same H H' ∧ ∀ d M, ds[i]? = some d → Dom M H → Same B (hol M H) → Is (hol M H') d x) (fun H s => .inl (.inl (s _ _ h))) fun i H x H' hi s y => by
    obtain ⟨e1, e2⟩ := y
    subst e1
    refine ⟨Same.refl _, fun d M hd dm sb => ?_⟩
    obtain ⟨v, h1, h2⟩ := r.get hd
    rw [e2] at h1
    cases h1
    exact h2.mono sb
  rw [e] at w
  exact w
theorem src_tup (h : B a = some (.tup xs)) (r : IsA B ds xs) : Src (Itt K a) B ds := by
  have e := r.len
  have w := (walk_tup (K := K) (a := a) (xs := xs)).mono (G' := fun H => Same B H) (Y' := fun i H x H' => Same H H' ∧ ∀ d M, ds[i]? = some d → Dom M H → Same B (hol M H) → Is (hol M H') d x) (fun H s => .inl (.inl (s _ _ h))) fun i H x H' hi s y => by
    obtain ⟨e1, e2⟩ := y
    subst e1
    refine ⟨Same.refl _, fun d M hd dm sb => ?_⟩
    obtain ⟨v, h1, h2⟩ := r.get hd
    rw [e2] at h1
    cases h1
    exact h2.mono sb
  rw [e] at w
  exact w
theorem src_pair {J : It} {n : Nat} {G : Hp → Prop} {f g : Nat → Option V} {ds es : List PyData} (w : Walk J n G (YPair f g)) (hG : ∀ H, Same B H → G H) (hn : n = (ds.zip es).length)
    (hf : ∀ (i : Nat) d v, ds[i]? = some d → f i = some v → Is B d v) (hg : ∀ (i : Nat) d v, es[i]? = some d → g i = some v → Is B d v) : Src J B ((ds.zip es).map fun p => .tuple [p.1, p.2]) := by
  have w' := w.mono (G' := fun H => Same B H) (Y' := fun i H x H' => Same H H' ∧ ∀ d M, ((ds.zip es).map fun p => PyData.tuple [p.1, p.2])[i]? = some d → Dom M H → Same B (hol M H) → Is (hol M H') d x) hG fun i H x H' hi s y => by
    obtain ⟨T, x1, x2, rfl, h2, rfl, h3, h4⟩ := y
    refine ⟨Same.new h2, fun d M hd dm sb => ?_⟩
    rw [List.getElem?_map] at hd
    obtain ⟨p, hp, e⟩ := Option.map_eq_some_iff.mp hd
    subst e
    have hp := List.getElem?_zip_eq_some.mp hp
    exact new_tup dm (.cons ((hf i _ _ hp.1 h3).mono sb) (.cons ((hg i _ _ hp.2 h4).mono sb) .nil)) h2
  subst hn
  unfold Src
  rw [List.length_map]
  exact w'
theorem src_zipL (h : B a = some (.lst xs)) (r : IsA B ds xs) (h' : B b = some (.lst ys)) (r' : IsA B es ys) : Src (Itz K a b) B ((ds.zip es).map fun p => .tuple [p.1, p.2]) :=
  src_pair (walk_zip rfl) (fun H s => ⟨.inl (.inl (s _ _ h)), .inl (.inl (s _ _ h'))⟩) (by rw [List.length_zip, r.len, r'.len]) (fun i d v hd hv => by
    obtain ⟨u, h1, h2⟩ := r.get hd
    rw [hv] at h1
    cases h1
    exact h2) fun i d v hd hv => by
    obtain ⟨u, h1, h2⟩ := r'.get hd
    rw [hv] at h1
    cases h1
    exact h2
theorem src_zipT (h : B a = some (.tup xs)) (r : IsA B ds xs) (h' : B b = some (.tup ys)) (r' : IsA B es ys) : Src (RZ.ItzT K a b) B ((ds.zip es).map fun p => .tuple [p.1, p.2]) :=
  src_pair (walk_zipT rfl) (fun H s => ⟨.inl (.inl (s _ _ h)), .inl (.inl (s _ _ h'))⟩) (by rw [List.length_zip, r.len, r'.len]) (fun i d v hd hv => by
    obtain ⟨u, h1, h2⟩ := r.get hd
    rw [hv] at h1
    cases h1
    exact h2) fun i d v hd hv => by
    obtain ⟨u, h1, h2⟩ := r'.get hd
    rw [hv] at h1
    cases h1
    exact h2
theorem src_zipM (h : B a = some (.tup xs)) (r : IsA B ds xs) (h' : B b = some (.lst ys)) (r' : IsA B es ys) : Src (ItzM K a b) B ((ds.zip es).map fun p => .tuple [p.1, p.2]) :=
  src_pair (walk_zipM rfl) (fun H s => ⟨.inl (.inl (s _ _ h)), .inl (.inl (s _ _ h'))⟩) (by rw [List.length_zip, r.len, r'.len]) (fun i d v hd hv => by
    obtain ⟨u, h1, h2⟩ := r.get hd
    rw [hv] at h1
    cases h1
    exact h2) fun i d v hd hv => by
    obtain ⟨u, h1, h2⟩ := r'.get hd
    rw [hv] at h1
    cases h1
    exact h2
def nums (n : Nat) : List PyData := (List.range n).map fun i => PyData.int ((i : Nat) : Int)
theorem nums_get {n i : Nat} {d : PyData} (h : (nums n)[i]? = some d) : d = .int ((i : Nat) : Int) ∧ i < n := by
  unfold nums at h
  rw [List.getElem?_map] at h
  obtain ⟨p, hp, e⟩ := Option.map_eq_some_iff.mp h
  obtain ⟨h1, h2⟩ := List.getElem?_eq_some_iff.mp hp
  rw [List.length_range] at h1
  rw [List.getElem_range] at h2
  subst h2
  exact ⟨e.symm, h1⟩
theorem nums_len (n : Nat) : (nums n).length = n := by simp [nums]
theorem src_enumL (h : B a = some (.lst xs)) (r : IsA B ds xs) : Src (Ite K a) B (((nums ds.length).zip ds).map fun p => .tuple [p.1, p.2]) :=
  src_pair walk_enum (fun H s => .inl (.inl (s _ _ h))) (by rw [List.length_zip, nums_len, r.len, Nat.min_self]) (fun i d v hd hv => by
    obtain ⟨rfl, _⟩ := nums_get hd
    cases hv
    exact .int _) fun i d v hd hv => by
    obtain ⟨u, h1, h2⟩ := r.get hd
    rw [hv] at h1
    cases h1
    exact h2
theorem src_enumT (h : B a = some (.tup xs)) (r : IsA B ds xs) : Src (IteT K a) B (((nums ds.length).zip ds).map fun p => .tuple [p.1, p.2]) :=
  src_pair walk_enumT (fun H s => .inl (.inl (s _ _ h))) (by rw [List.length_zip, nums_len, r.len, Nat.min_self]) (fun i d v hd hv => by
    obtain ⟨rfl, _⟩ := nums_get hd
    cases hv
    exact .int _) fun i d v hd hv => by
    obtain ⟨u, h1, h2⟩ := r.get hd
    rw [hv] at h1
    cases h1
    exact h2
theorem src_range {n : Nat} : Src (Itr 0 n) B (nums n) := by
  have w := (walk_range (lo := 0) (n := n)).mono (G' := fun H => Same B H) (Y' := fun i H x H' => Same H H' ∧ ∀ d M, (nums n)[i]? = some d → Dom M H → Same B (hol M H) → Is (hol M H') d x) (fun _ _ => trivial) fun i H x H' hi s y => by
    obtain ⟨e1, e2⟩ := y
    subst e1 e2
    refine ⟨Same.refl _, fun d M hd dm sb => ?_⟩
    obtain ⟨rfl, _⟩ := nums_get hd
    show Is (hol M H') (PyData.int ((i : Nat) : Int)) (V.int (0 + ((i : Nat) : Int)))
    rw [Int.zero_add]
    exact .int _
  unfold Src
  rw [nums_len]
  exact w
theorem src_keys {o : Obj} {kvs : List (Str × V)} (h : B a = some (.frz o (.dK (kvs.map fun p => (.inr p.1, p.2))))) : Src (Itk a o (kvs.map fun p => (Sum.inr p.1, p.2))) B (kvs.map fun p => .str p.1) := by
  have w := (walk_keys (d := a) (o := o) (kvs := kvs.map fun p => (Sum.inr p.1, p.2))).mono (G' := fun H => Same B H) (Y' := fun i H x H' => Same H H' ∧ ∀ d M, (kvs.map fun p => PyData.str p.1)[i]? = some d → Dom M H → Same B (hol M H) → Is (hol M H') d x) (fun H s => s _ _ h) fun i H x H' hi s y => by
    obtain ⟨e1, k, v, h1, h2⟩ := y
    subst e1 h2
    refine ⟨Same.refl _, fun d M hd dm sb => ?_⟩
    rw [List.getElem?_map] at hd h1
    obtain ⟨p, hp, e⟩ := Option.map_eq_some_iff.mp hd
    subst e
    rw [hp] at h1
    cases h1
    exact .str _
  unfold Src
  rw [List.length_map]
  rw [List.length_map] at w
  exact w
end
section
variable {J : It} {B : Hp} {ds : List PyData} {g : TG} {tb : TS} {n : L2.St → Hp → Prop} {r : VK} {b c : L2.St → Hp → Prop} {σ : L2.St} {H : Hp}
theorem for_src (S : Src J B ds) (Pv : Nat → L2.St → Hp → Prop) (h0 : Pv 0 σ H) (hB : ∀ i σ H, Pv i σ H → Same B H)
    (hs : ∀ (i : Nat) d x σ H H', ds[i]? = some d → Pv i σ H → Same H H' → (∀ M, Dom M H → Same B (hol M H) → Is (hol M H') d x) → g x σ H' fun σ2 H2 => tb ⟨Pv (i + 1), r, n, Pv (i + 1)⟩ σ2 H2) (hd : ∀ σ H, Pv ds.length σ H → n σ H) :
    ForK J g tb n r b c σ H :=
  for_it S (D := ⟨n, r, b, c⟩) Pv h0 (fun i σ H _ p => hB i σ H p) (fun i x σ H H' hi p y => by
    obtain ⟨d, hd⟩ : ∃ d, ds[i]? = some d := ⟨ds[i], List.getElem?_eq_getElem hi⟩
    exact hs i d x σ H H' hd p y.1 fun M dm sb => y.2 d M hd dm sb) hd
variable {tt : TT} {te : TE} {vs : List Nat} {Q : VK} {M N : List Addr}
theorem hol_wk {L : Addr} {A B : Hp} (hN : ∀ a ∈ N, a ∈ M) (h : Same (hol N A) (hol (L :: N) B)) : Same (hol M A) (hol (L :: M) B) := fun b o e => by
  obtain ⟨h1, h2⟩ := hol_some.mp e
  obtain ⟨h3, h4⟩ := hol_some.mp (h b o (hol_some.mpr ⟨fun m => h1 (hN b m), h2⟩))
  refine hol_some.mpr ⟨fun m => ?_, h4⟩
  rcases List.mem_cons.mp m with q | q
  · exact h3 (List.mem_cons.mpr (.inl q))
  · exact h1 q
theorem lc_core (S : Src J B ds) (cu : Cur M) (dm : Dom M H) (hB : Same B (hol M H)) (hN : ∀ a ∈ N, a ∈ M) (C : Hp → Prop) (cm : ∀ A B, Same A B → C A → C B) (cN : ∀ A, C A → Dom N A) (hC : C H) (hz : ds.length < 100000) (Acc : Nat → List PyData → Prop) (a0 : Acc 0 [])
    (turn : ∀ (i : Nat) d x L out H1 H' (Y : V → Hp → Prop) (No : Hp → Prop), ds[i]? = some d → Acc i out → Dom (L :: M) H1 → Same (hol N H) (hol (L :: N) H1) → C (hol [L] H1) → Same H1 H' → Is (hol (L :: M) H') d x → L ∉ M →
      (∀ y d' H2, Same (hol (L :: N) H1) (hol (L :: N) H2) → (∀ o, H1 L = some o → H2 L = some o) → C (hol [L] H2) → Is (hol (L :: M) H2) d' y → Acc (i + 1) (out ++ [d']) → Y y H2) →
      (∀ H2, Same (hol (L :: N) H1) (hol (L :: N) H2) → (∀ o, H1 L = some o → H2 L = some o) → C (hol [L] H2) → Acc (i + 1) out → No H2) →
      g x (wipe σ vs) H' fun σ2 H2 => wipe σ2 vs = wipe σ vs ∧ tt σ2 H2 fun b H3 => if b = true then te σ2 H3 Y else No H3)
    (k : ∀ v out H', Same (hol N H) (hol N H') → C H' → Acc ds.length out → Is (hol M H') (.list out) v → Q v H') : LcK J g tt te vs σ H Q := by
  intro L hL
  have hLM : L ∉ M := dm.not hL
  refine lc_it S (fun i H1 => ∃ out acc, Acc i out ∧ out.length ≤ i ∧ H1 L = some (.lst acc) ∧ IsA (hol (L :: M) H1) out acc ∧ i ≤ ds.length ∧ Dom (L :: M) H1 ∧ Same (hol N H) (hol (L :: N) H1) ∧ C (hol [L] H1)) ?_ ?_ ?_ ?_
  · exact ⟨[], [], a0, Nat.le_refl _, upd_same, .nil, Nat.zero_le _, .cons upd_same (dm.mono (Same.new hL)), hol_mut hL, cm _ _ (hol_mut (M := []) hL) hC⟩
  · rintro i H1 hi ⟨out, acc, _, _, _, _, _, _, sN, _⟩
    exact (hB.trans (hol_wk hN sN)).trans hol_le
  · rintro i x H1 H' hi ⟨out, acc, ha, hlen, hL1, r1, _, dm1, sN, hC1⟩ y
    obtain ⟨d, hd'⟩ : ∃ d, ds[i]? = some d := ⟨ds[i], List.getElem?_eq_getElem hi⟩
    have keep : ∀ {H2 : Hp}, Same (hol (L :: N) H1) (hol (L :: N) H2) → (∀ o, H1 L = some o → H2 L = some o) → C (hol [L] H2) → Dom (L :: M) H2 := fun {H2} s1 s2 c2 m hm => by
      obtain ⟨o, e⟩ := dm1 m hm
      by_cases q : m = L
      · subst q
        exact ⟨o, s2 o e⟩
      · by_cases q' : m ∈ N
        · exact (cN _ c2).mono hol_le m q'
        · exact ⟨o, (hol_some.mp (s1 m o (hol_some.mpr ⟨fun z => (List.mem_cons.mp z).elim q q', e⟩))).2⟩
    refine turn i d x L out H1 H' _ _ hd' ha dm1 sN hC1 y.1 (y.2 d (L :: M) hd' dm1 (hB.trans (hol_wk hN sN))) hLM (fun y2 d' H2 s1 s2 c2 is1 k => ?_) fun H2 s1 s2 c2 k => ?_
    · have e2 := s2 _ hL1
      have wk : Same (hol (L :: M) H1) (hol (L :: M) H2) := hol_weak (fun a m => (List.mem_cons.mp m).elim (fun q => by rw [q]; exact List.mem_cons_self) fun q => List.mem_cons_of_mem _ (hN a q)) s1
      have len1 := r1.len
      refine ⟨acc, e2, Nat.lt_of_lt_of_le (show acc.length < 100000 by omega) (by decide), out ++ [d'], acc ++ [y2], k, by simp; omega, upd_same, ?_, hi, (keep s1 s2 c2).upd, (sN.trans s1).trans (hol_upd List.mem_cons_self), cm _ _ (hol_upd (M := [L]) List.mem_cons_self) c2⟩
      have se : Same (hol (L :: M) H2) (hol (L :: M) (upd H2 L (.lst (acc ++ [y2])))) := hol_upd List.mem_cons_self
      exact ((r1.mono wk).mono se).app (IsA.one (is1.mono se))
    · have wk : Same (hol (L :: M) H1) (hol (L :: M) H2) := hol_weak (fun a m => (List.mem_cons.mp m).elim (fun q => by rw [q]; exact List.mem_cons_self) fun q => List.mem_cons_of_mem _ (hN a q)) s1
      exact ⟨out, acc, k, by omega, s2 _ hL1, r1.mono wk, hi, keep s1 s2 c2, sN.trans s1, c2⟩
  · rintro H1 ⟨out, acc, ha, _, hL1, r1, _, dm1, sN, hC1⟩
    exact k _ _ _ (sN.trans hol_sub) (cm _ _ hol_le hC1) ha (.lst (hol_some.mpr ⟨hLM, hL1⟩) (r1.mono hol_sub))
theorem lc_map {α : Type} {l : List α} {enc : α → PyData} (S : Src J B (l.map enc)) (F : α → Option PyData) (cu : Cur M) (dm : Dom M H) (hB : Same B (hol M H)) (hz : l.length < 100000)
    (turn : ∀ (i : Nat) a x L H' (Y : V → Hp → Prop) (No : Hp → Prop), l[i]? = some a → Cur (L :: M) → Dom (L :: M) H' → Same (hol M H) (hol (L :: M) H') → Same H (hol [L] H') → Is (hol (L :: M) H') (enc a) x →
      (∀ y d' H2, Same H' H2 → Is (hol (L :: M) H2) d' y → F a = some d' → Y y H2) → (∀ H2, Same H' H2 → F a = none → No H2) →
      g x (wipe σ vs) H' fun σ2 H2 => wipe σ2 vs = wipe σ vs ∧ tt σ2 H2 fun b H3 => if b = true then te σ2 H3 Y else No H3)
    (k : ∀ v H', Same H H' → Is (hol M H') (.list (l.filterMap F)) v → Q v H') : LcK J g tt te vs σ H Q := by
  have step : ∀ (i : Nat) d, l[i]? = some d → (l.take (i + 1)).filterMap F = (l.take i).filterMap F ++ (match F d with | some d' => [d'] | none => []) := fun i d hd => by
    rw [List.take_add_one, hd, List.filterMap_append]
    cases hF : F d <;> simp [hF]
  refine lc_core (N := []) S cu dm hB (by simp) (fun _ => True) (fun _ _ _ _ => trivial) (fun _ _ => .nil) trivial (by rw [List.length_map]; exact hz) (fun i out => out = (l.take i).filterMap F) (by simp) (fun i d x L out H1 H' Y No hd0 ha dm1 sN _ s1 is1 hLM kY kN => ?_) fun v out H' s _ ha h => ?_
  · rw [List.getElem?_map] at hd0
    obtain ⟨a, hd, rfl⟩ := Option.map_eq_some_iff.mp hd0
    refine turn i a x L H' Y No hd (Sg.cur _) (dm1.mono s1) ((hol_wk (N := []) (by simp) sN).trans (same_hol s1)) (sN.trans (same_hol (M := [L]) s1)) is1 (fun y d' H2 s2 is2 e => ?_) fun H2 s2 e => ?_
    · have s3 := s1.trans s2
      exact kY y d' H2 (same_hol s3) (fun o => s3 L o) trivial is2 (by rw [step i a hd, e, ha])
    · have s3 := s1.trans s2
      exact kN H2 (same_hol s3) (fun o => s3 L o) trivial (by rw [step i a hd, e, ha]; simp)
  · rw [ha, List.length_map, List.take_of_length_le (Nat.le_refl _)] at h
    exact k v H' s h
end
def PCell (H : Hp) (p l : Addr) : Prop := ∃ i z n salt : Int, H p = some (.lst [.ref l, .int i, .int z, .int n, .int salt]) ∧ 0 ≤ i
theorem PCell.mono {H H' : Hp} {p l : Addr} (e : Same H H') : PCell H p l → PCell H' p l := fun ⟨i, z, n, salt, h, h0⟩ => ⟨i, z, n, salt, e _ _ h, h0⟩
theorem PCell.dom {H : Hp} {p l : Addr} (h : PCell H p l) : Dom [p] H := by
  obtain ⟨_, _, _, _, e, _⟩ := h
  exact .cons e .nil
theorem PCell.ne {H : Hp} {p l L : Addr} (h : PCell (hol [L] H) p l) : L ≠ p := by
  obtain ⟨_, _, _, _, e, _⟩ := h
  intro q
  exact (hol_some.mp e).1 (by simp [q])
theorem PCell.hole {H : Hp} {p l L : Addr} (h : PCell H p l) (ne : L ≠ p) : PCell (hol [L] H) p l := by
  obtain ⟨i, z, n, salt, e, h0⟩ := h
  exact ⟨i, z, n, salt, hol_some.mpr ⟨by simp [Ne.symm ne], e⟩, h0⟩
section
variable {J : It} {B : Hp} {ds : List PyData} {g : TG} {tb : TS} {σ : L2.St} {H : Hp} {tt : TT} {te : TE} {vs : List Nat} {Q : VK} {M : List Addr} {p l : Addr}
theorem lc_pool {α : Type} {ls : List α} {enc : α → PyData} (S : Src J B (ls.map enc)) (R : α → PyData → Prop) (cu : Cur (p :: M)) (dm : Dom M H) (hp : PCell H p l) (hB : Same B (hol (p :: M) H)) (hz : ls.length < 100000)
    (turn : ∀ (i : Nat) a x L H' (Y : V → Hp → Prop) (No : Hp → Prop), ls[i]? = some a → Cur (p :: L :: M) → Dom (L :: M) H' → Same (hol (p :: M) H) (hol (p :: L :: M) H') → Same (hol [p] H) (hol [p, L] H') → PCell H' p l → L ≠ p → Is (hol (p :: L :: M) H') (enc a) x →
      (∀ y d' H2, Same (hol [p] H') (hol [p] H2) → PCell H2 p l → Is (hol (p :: L :: M) H2) d' y → R a d' → Y y H2) →
      g x (wipe σ vs) H' fun σ2 H2 => wipe σ2 vs = wipe σ vs ∧ tt σ2 H2 fun b H3 => if b = true then te σ2 H3 Y else No H3)
    (k : ∀ v out H', Same (hol [p] H) (hol [p] H') → PCell H' p l → Paired R ls out → Is (hol (p :: M) H') (.list out) v → Q v H') : LcK J g tt te vs σ H Q := by
  have swap : ∀ {A B : Hp} {N : List Addr} {L : Addr}, Same A (hol (L :: p :: N) B) → Same A (hol (p :: L :: N) B) := fun {A B N L} h b o e => by
    obtain ⟨h1, h2⟩ := hol_some.mp (h b o e)
    exact hol_some.mpr ⟨fun m => h1 (by simp at m ⊢; rcases m with m | m | m <;> simp [m]), h2⟩
  have swap' : ∀ {B : Hp} {N : List Addr} {L : Addr}, Same (hol (L :: p :: N) B) (hol (p :: L :: N) B) := fun {B N L} => swap (Same.refl _)
  have swap2 : ∀ {B : Hp} {N : List Addr} {L : Addr}, Same (hol (p :: L :: N) B) (hol (L :: p :: N) B) := fun {B N L} b o e => by
    obtain ⟨h1, h2⟩ := hol_some.mp e
    exact hol_some.mpr ⟨fun m => h1 (by simp at m ⊢; rcases m with m | m | m <;> simp [m]), h2⟩
  have dm' : Dom (p :: M) H := by
    obtain ⟨_, _, _, _, e, _⟩ := id hp
    exact .cons e dm
  refine lc_core (N := [p]) S cu dm' hB (by simp) (fun A => PCell A p l) (fun _ _ e h => h.mono e) (fun _ h => h.dom) hp (by rw [List.length_map]; exact hz) (fun i out => Paired R (ls.take i) out) (by simp; exact .nil) (fun i d x L out H1 H' Y No hd0 ha dm1 sN c1 s1 is1 hLM kY kN => ?_) fun v out H' s c ha h => ?_
  · rw [List.getElem?_map] at hd0
    obtain ⟨a, hd, rfl⟩ := Option.map_eq_some_iff.mp hd0
    have ne : L ≠ p := c1.ne
    refine turn i a x L H' Y No hd (Sg.cur _) (fun m hm => ?_) (swap ((hol_wk (N := [p]) (by simp) sN).trans (same_hol s1))) (swap (sN.trans (same_hol s1))) ((c1.mono hol_le).mono s1) ne (is1.mono swap') (fun y d' H2 s2 c2 is2 r => ?_)
    · refine (dm1.mono s1) m ?_
      rcases List.mem_cons.mp hm with q | q
      · rw [q]; exact List.mem_cons_self
      · exact List.mem_cons_of_mem _ (List.mem_cons_of_mem _ q)
    · have s3 : Same (hol [p] H1) (hol [p] H2) := (same_hol s1).trans s2
      refine kY y d' H2 (hol_weak (N := [p]) (by simp) s3) (fun o e => ?_) (c2.hole ne) (is2.mono swap2) ?_
      · exact (hol_some.mp (s3 L o (hol_some.mpr ⟨by simp [ne], e⟩))).2
      · have e : ls.take (i + 1) = ls.take i ++ [a] := by rw [List.take_add_one, hd]; rfl
        rw [e]
        clear kY kN turn k
        have app : ∀ {xs : List α} {ys : List PyData}, Paired R xs ys → Paired R (xs ++ [a]) (ys ++ [d']) := fun {xs ys} h => by
          induction h with
          | nil => exact .cons r .nil
          | cons h _ ih => exact .cons h ih
        exact app ha
  · rw [List.length_map, List.take_of_length_le (Nat.le_refl _)] at ha
    exact k v out H' s c ha h
end
theorem src_zip_map {J : It} {B : Hp} {α β : Type} {l : List α} {m : List β} {f : α → PyData} {g : β → PyData} (S : Src J B (((l.map f).zip (m.map g)).map fun p => .tuple [p.1, p.2])) : Src J B ((l.zip m).map fun p => .tuple [f p.1, g p.2]) := by
  rw [List.zip_map, List.map_map] at S
  exact S
theorem src_enum_map {J : It} {B : Hp} {β : Type} {m : List β} {g : β → PyData} (S : Src J B (((nums (m.map g).length).zip (m.map g)).map fun p => .tuple [p.1, p.2])) : Src J B (((List.range m.length).zip m).map fun p => .tuple [.int ((p.1 : Nat) : Int), g p.2]) := by
  rw [List.length_map] at S
  exact src_zip_map (f := fun i : Nat => PyData.int ((i : Nat) : Int)) S
theorem enum_get {β : Type} {m : List β} {i : Nat} {p : Nat × β} (h : ((List.range m.length).zip m)[i]? = some p) : p.1 = i ∧ m[i]? = some p.2 := by
  have h := List.getElem?_zip_eq_some.mp h
  obtain ⟨h1, h2⟩ := List.getElem?_eq_some_iff.mp h.1
  rw [List.getElem_range] at h2
  exact ⟨h2.symm, h.2⟩
theorem for_map {J : It} {B : Hp} {α : Type} {l : List α} {enc : α → PyData} {g : TG} {tb : TS} {n : L2.St → Hp → Prop} {r : VK} {b c : L2.St → Hp → Prop} {σ : L2.St} {H : Hp} (S : Src J B (l.map enc)) (Pv : Nat → L2.St → Hp → Prop) (h0 : Pv 0 σ H) (hB : ∀ i σ H, Pv i σ H → Same B H)
    (hs : ∀ (i : Nat) a x σ H H', l[i]? = some a → Pv i σ H → Same H H' → (∀ M, Dom M H → Same B (hol M H) → Is (hol M H') (enc a) x) → g x σ H' fun σ2 H2 => tb ⟨Pv (i + 1), r, n, Pv (i + 1)⟩ σ2 H2) (hd : ∀ σ H, Pv l.length σ H → n σ H) :
    ForK J g tb n r b c σ H :=
  for_src S Pv h0 hB (fun i d x σ H H' hd p s k => by
    rw [List.getElem?_map] at hd
    obtain ⟨a, ha, rfl⟩ := Option.map_eq_some_iff.mp hd
    exact hs i a x σ H H' ha p s k) fun σ H p => hd σ H (by rw [List.length_map] at p; exact p)
end Sg
namespace Sg
open PySem PySem.Spec PyProof.Rows L2
def top (i : Nat) : Stmt := PySem.Challenge.pw_signoff_k82_whole_cheapest_choice.main.body.getD i (.Pass ⟨0, 0, 0, 0⟩)
def lcScope : Expr → Scope
  | .ListComp _ _ sc _ => sc
  | .DictComp _ _ _ sc _ => sc
  | _ => ⟨.function, [], false, false, []⟩
def lcElt : Expr → Expr
  | .ListComp e _ _ _ => e
  | e => e
def callArg (e : Expr) (j : Nat) : Expr := match e with
  | .Call _ es _ _ => es.getD j e
  | e => e
def tupElt (e : Expr) (j : Nat) : Expr := match e with
  | .Tuple es _ _ => es.getD j e
  | e => e
def binL : Expr → Expr
  | .BinOp a _ _ _ => a
  | e => e
def binR : Expr → Expr
  | .BinOp _ _ b _ => b
  | e => e
def cmpL : Expr → Expr
  | .Compare a _ _ _ => a
  | e => e
def stVal : Stmt → Expr
  | .Assign _ e _ => e
  | .Return (some e) _ => e
  | .Expr e _ => e
  | _ => .Constant .none 0 ⟨0, 0, 0, 0⟩
def stBody : Stmt → List Stmt
  | .For _ _ b _ _ => b
  | .While _ b _ _ => b
  | .If _ b _ _ => b
  | _ => []
def stElse : Stmt → List Stmt
  | .If _ _ b _ => b
  | _ => []
theorem u65 {A : Around} {k : Nat} (hr : Room k A) : A.units + 65 < cLine := by
  have := hr.un
  omega
structure Bl (mg : Str → Option Value) : Prop where
  len : mg "len" = none
  list : mg "list" = none
  tuple : mg "tuple" = none
  int : mg "int" = none
  str : mg "str" = none
  min : mg "min" = none
  max : mg "max" = none
  sum : mg "sum" = none
  all : mg "all" = none
  zip : mg "zip" = none
  enumerate : mg "enumerate" = none
  range : mg "range" = none
  isinstance : mg "isinstance" = none
  bool : mg "bool" = none
end Sg
namespace Sg
open PySem PySem.Spec PyProof.Rows L2

def Upd (l : Addr) (H H' : Hp) : Prop := ∀ b, b ≠ l → H' b = H b
theorem Upd.of {l : Addr} {H : Hp} {o : HO} : Upd l H (upd H l o) := fun b h => upd_ne h
theorem Upd.hol {l : Addr} {H H' : Hp} {M : List Addr} (u : Upd l H H') (hm : l ∈ M) : Same (hol M H) (hol M H') := fun b o e => by
  obtain ⟨h1, h2⟩ := hol_some.mp e
  exact hol_some.mpr ⟨h1, by rw [u b (fun q : b = l => h1 (by rw [q]; exact hm))]; exact h2⟩
theorem Upd.at {l b : Addr} {H H' : Hp} {o : HO} (u : Upd l H H') (ne : b ≠ l) (h : H b = some o) : H' b = some o := by rw [u b ne]; exact h
theorem Upd.dom {l : Addr} {H H' : Hp} {o : HO} {M : List Addr} (u : Upd l H H') (h : H' l = some o) (d : Dom M H) : Dom M H' := fun m hm => by
  by_cases e : m = l
  · rw [e]; exact ⟨o, h⟩
  · obtain ⟨x, hx⟩ := d m hm
    exact ⟨x, u.at e hx⟩
def ListW (K : PySem.W.Frag) (x : V) (H1 : Hp) (R : It → Hp → Prop) : Prop := ∃ a, x = .ref a ∧ (∃ xs, SqL K H1 a xs) ∧ R (Itl K a) H1
def TupW (K : PySem.W.Frag) (x : V) (H1 : Hp) (R : It → Hp → Prop) : Prop := ∃ a, x = .ref a ∧ (∃ xs, SqT K H1 a xs) ∧ R (Itt K a) H1
def Rng1W (vs : List V) (H1 : Hp) (R : It → Hp → Prop) : Prop := ∃ j : Int, vs = [.int j] ∧ -(2 ^ 62) ≤ j ∧ j < 2 ^ 62 ∧ R (Itr 0 j.toNat) H1
def EnumTW (K : PySem.W.Frag) (vs : List V) (H1 : Hp) (R : It → Hp → Prop) : Prop := ∃ a xs, vs = [.ref a] ∧ SqT K H1 a xs ∧ R (IteT K a) H1
def EnumW (K : PySem.W.Frag) (vs : List V) (H1 : Hp) (R : It → Hp → Prop) : Prop := ∃ a xs, vs = [.ref a] ∧ SqL K H1 a xs ∧ R (Ite K a) H1
def ZipW (K : PySem.W.Frag) (vs : List V) (H1 : Hp) (R : It → Hp → Prop) : Prop := ∃ a b xs ys, vs = [.ref a, .ref b] ∧ SqL K H1 a xs ∧ SqL K H1 b ys ∧ R (Itz K a b) H1
def ZipMW (K : PySem.W.Frag) (vs : List V) (H1 : Hp) (R : It → Hp → Prop) : Prop := ∃ a b xs ys, vs = [.ref a, .ref b] ∧ SqT K H1 a xs ∧ SqL K H1 b ys ∧ R (ItzM K a b) H1
def ZipAW (K : PySem.W.Frag) (vs : List V) (H1 : Hp) (R : It → Hp → Prop) : Prop := ∃ a b xs ys, vs = [.ref a, .ref b] ∧ ((SqL K H1 a xs ∧ SqL K H1 b ys ∧ R (Itz K a b) H1) ∨ (SqT K H1 a xs ∧ SqT K H1 b ys ∧ R (RZ.ItzT K a b) H1))
def RngW (x : V) (H1 : Hp) (R : It → Hp → Prop) : Prop := ∃ (a : Addr) (j : Int), x = .ref a ∧ H1 a = some (.rng 0 j) ∧ -(2 ^ 62) ≤ j ∧ j < 2 ^ 62 ∧ R (Itr 0 j.toNat) H1
section
variable {K : PySem.W.Frag} {H : Hp} {Q : VK} {x y v : V} {M : List Addr} {ds es : List PyData} {d e : PyData} {l : Addr} {P : Hp → Prop}
theorem g_app {xs : List V} (h : H l = some (.lst xs)) (hz : xs.length < 100000) (k : ∀ H', Upd l H H' → H' l = some (.lst (xs ++ [v])) → Q .non H') : rAppend (.ref l) [v] H Q :=
  g_append h hz (k _ .of upd_same)
theorem g_popM {xs : List V} (h : H l = some (.lst (xs ++ [v]))) (k : ∀ H', Upd l H H' → H' l = some (.lst xs) → Q v H') : rPop (.ref l) [] H Q := by
  refine ⟨l, xs ++ [v], v, rfl, rfl, h, by simp, ?_⟩
  rw [List.dropLast_concat]
  exact k _ .of upd_same
theorem g_popI {xs : List V} {i : Nat} (h : H l = some (.lst xs)) (hi : xs[i]? = some v) (hz : xs.length < 100000) (k : ∀ H', Upd l H H' → H' l = some (.lst (xs.eraseIdx i)) → Q v H') : rPopAt (.ref l) [.int (i : Int)] H Q := by
  have hl := (List.getElem?_eq_some_iff.mp hi).1
  refine ⟨l, xs, (i : Int), i, v, rfl, rfl, h, by omega, by omega, ?_, hi, k _ .of upd_same⟩
  unfold seqIndex?
  have h1 : ¬ ((i : Int) < 0) := by omega
  have h2 : (decide ((0 : Int) ≤ (i : Int)) && decide ((i : Int) < (xs.length : Int))) = true := by
    rw [decide_eq_true (show (0 : Int) ≤ (i : Int) by omega), decide_eq_true (show (i : Int) < (xs.length : Int) by omega)]
    rfl
  simp only [if_neg h1, h2, if_true, Int.toNat_natCast]
theorem g_setM {xs : List V} {i : Int} {j : Nat} (h : H l = some (.lst xs)) (hj : ixN xs.length i = some j) (q : ∀ H', Upd l H H' → H' l = some (.lst (xs.set j v)) → P H') : rSetL (.ref l) (.int i) v H P := g_setL h hj (q _ .of upd_same)
theorem g_putM {k : Key} {kvs : List (Key × V)} (h : H l = some (.dK kvs)) (hl : kvs.length < 100000) (q : ∀ H', Upd l H H' → H' l = some (.dK (putK kvs k v)) → P H') : DPutK v (.ref l) (kV k) H P :=
  g_dputK h hl (q _ .of upd_same)
theorem g_fldM {f : Str} {C dx : Addr} {fs : List (Str × V)} (h : H l = some (.ins C dx fs)) (cl : Cls K C) (na : NoAttr K C f) (hl : fs.length < 1000) (k : ∀ H', Upd l H H' → H' l = some (.ins C dx (putF f y fs)) → P H') :
    FldSK K f y (.ref l) H P := g_fldSK h cl na hl (k _ .of upd_same)
theorem sq_of {ns : List Int} (h : Is (hol M H) (.list (ns.map PyData.int)) x) : ∃ a, x = .ref a ∧ SqL K H a (ns.map V.int) := by
  obtain ⟨a, xs, rfl, h1, h2⟩ := h.lst_inv
  rw [h2.ints] at h1
  exact ⟨a, rfl, .inl (.inl (hol_le _ _ h1))⟩
theorem g_sum {ns : List Int} (cu : Cur M) (h : Is (hol M H) (.list (ns.map PyData.int)) x) (k : Q (.int ns.sum) H) : rSum K [x] H Q := by
  obtain ⟨a, rfl, s⟩ := sq_of (K := K) h
  exact ⟨a, ns, rfl, s, k⟩
theorem g_min {ns : List Int} (cu : Cur M) (h : Is (hol M H) (.list (ns.map PyData.int)) x) (hl : 0 < ns.length) (k : ∀ m, m ∈ ns → (∀ y, y ∈ ns → m ≤ y) → Q (.int m) H) : rMin K [x] H Q := by
  obtain ⟨a, rfl, s⟩ := sq_of (K := K) h
  exact ⟨a, ns, rfl, s, hl, k⟩
theorem g_max {ns : List Int} (cu : Cur M) (h : Is (hol M H) (.list (ns.map PyData.int)) x) (hl : 0 < ns.length) (k : ∀ m, m ∈ ns → (∀ y, y ∈ ns → y ≤ m) → Q (.int m) H) : rMax K [x] H Q := by
  obtain ⟨a, rfl, s⟩ := sq_of (K := K) h
  exact ⟨a, ns, rfl, s, hl, k⟩
theorem g_maxM {ns : List Int} (h : H l = some (.lst (ns.map V.int))) (hl : 0 < ns.length) (k : ∀ m, m ∈ ns → (∀ y, y ∈ ns → y ≤ m) → Q (.int m) H) : rMax K [.ref l] H Q := ⟨l, ns, rfl, .inl (.inl h), hl, k⟩
theorem g_minM {ns : List Int} (h : H l = some (.lst (ns.map V.int))) (hl : 0 < ns.length) (k : ∀ m, m ∈ ns → (∀ y, y ∈ ns → m ≤ y) → Q (.int m) H) : rMin K [.ref l] H Q := ⟨l, ns, rfl, .inl (.inl h), hl, k⟩
theorem g_all {bs : List Bool} (cu : Cur M) (h : Is (hol M H) (.list (bs.map PyData.bool)) x) (k : Q (.bl (bs.all id)) H) : rAll K [x] H Q := by
  obtain ⟨a, xs, rfl, h1, h2⟩ := h.lst_inv
  rw [h2.bools] at h1
  exact ⟨a, bs, rfl, .inl (.inl (hol_le _ _ h1)), k⟩
theorem inV_strs (s : Str) : ∀ l : List Str, inV (.str s) (l.map V.str) = decide (s ∈ l)
  | [] => rfl
  | z :: r => by
    have ih := inV_strs s r
    unfold inV at ih ⊢
    rw [List.map_cons, List.any_cons, ih]
    have e : eqV (.str z) (.str s) = decide (z = s) := by
      show (z == s) = decide (z = s)
      by_cases q : z = s
      · simp [q]
      · rw [decide_eq_false q]; exact beq_eq_false_iff_ne.mpr q
    rw [e]
    by_cases h : z = s
    · subst h; simp
    · have h' : ¬ s = z := fun q => h q.symm
      simp [h, h']
theorem flat_strs : ∀ l : List Str, (l.map V.str).all flatV = true
  | [] => rfl
  | _ :: r => by
    rw [List.map_cons, List.all_cons, flat_strs r]
    rfl
theorem inV_ints (s : Int) : ∀ l : List Int, inV (.int s) (l.map V.int) = decide (s ∈ l)
  | [] => rfl
  | z :: r => by
    have ih := inV_ints s r
    unfold inV at ih ⊢
    rw [List.map_cons, List.any_cons, ih]
    have e : eqV (.int z) (.int s) = decide (z = s) := by
      show (z == s) = decide (z = s)
      by_cases q : z = s
      · simp [q]
      · rw [decide_eq_false q]; exact beq_eq_false_iff_ne.mpr q
    rw [e]
    by_cases h : z = s
    · subst h; simp
    · have h' : ¬ s = z := fun q => h q.symm
      simp [h, h']
theorem flat_ints : ∀ l : List Int, (l.map V.int).all flatV = true
  | [] => rfl
  | _ :: r => by
    rw [List.map_cons, List.all_cons, flat_ints r]
    rfl
theorem g_inS {ls : List Str} {s : Str} (cu : Cur M) (h : Is (hol M H) (.list (ls.map PyData.str)) y) (k : Q (.bl (decide (s ∈ ls))) H) : rIn K false (.str s) y H Q := by
  obtain ⟨a, xs, rfl, h1, h2⟩ := h.lst_inv
  rw [h2.strs] at h1
  refine ⟨a, _, rfl, .inl (.inl (.inl (hol_le _ _ h1))), rfl, flat_strs ls, ?_⟩
  rw [inV_strs]
  exact k
theorem g_niS {ls : List Str} {s : Str} (cu : Cur M) (h : Is (hol M H) (.list (ls.map PyData.str)) y) (k : Q (.bl (!decide (s ∈ ls))) H) : rIn K true (.str s) y H Q := by
  obtain ⟨a, xs, rfl, h1, h2⟩ := h.lst_inv
  rw [h2.strs] at h1
  refine ⟨a, _, rfl, .inl (.inl (.inl (hol_le _ _ h1))), rfl, flat_strs ls, ?_⟩
  rw [inV_strs]
  exact k
theorem g_niM {ls : List Int} {s : Int} (h : H l = some (.lst (ls.map V.int))) (k : Q (.bl (!decide (s ∈ ls))) H) : rIn K true (.int s) (.ref l) H Q := by
  refine ⟨l, _, rfl, .inl (.inl (.inl h)), rfl, flat_ints ls, ?_⟩
  rw [inV_ints]
  exact k
variable {σ : L2.St} {ta te : TE} {tA : TA} {R : It → Hp → Prop} {B : Hp}
theorem w_list (k : ta σ H fun x H1 => ListW K x H1 R) : iList K ta σ H R := k
theorem w_listK (sb : Same B H) (h : Is B (.list ds) x) (k : ∀ a, Src (Itl K a) B ds → R (Itl K a) H) : ListW K x H R := by
  obtain ⟨a, xs, rfl, h1, h2⟩ := h.lst_inv
  exact ⟨a, rfl, ⟨xs, .inl (.inl (sb _ _ h1))⟩, k a (src_list h1 h2)⟩
theorem w_tup (k : ta σ H fun x H1 => TupW K x H1 R) : iTup K ta σ H R := k
theorem w_tupK (sb : Same B H) (h : Is B (.tuple ds) x) (k : ∀ a, Src (Itt K a) B ds → R (Itt K a) H) : TupW K x H R := by
  obtain ⟨a, xs, rfl, h1, h2⟩ := h.tup_inv
  exact ⟨a, rfl, ⟨xs, .inl (.inl (sb _ _ h1))⟩, k a (src_tup h1 h2)⟩
theorem w_rng1 (k : tA σ H fun vs H1 => Rng1W vs H1 R) : iRng1 tA σ H R := k
theorem w_rng1K {n : Nat} {j : Int} (e : j = (n : Int)) (hn : n < 1000000) (k : R (Itr 0 n) H) : Rng1W [.int j] H R := by
  subst e
  exact ⟨_, rfl, by omega, by omega, by simpa using k⟩
theorem w_enumT (k : tA σ H fun vs H1 => EnumTW K vs H1 R) : iEnumT K tA σ H R := k
theorem w_enumTK (sb : Same B H) (h : Is B (.tuple ds) x) (k : ∀ a, Src (IteT K a) B (((nums ds.length).zip ds).map fun p => .tuple [p.1, p.2]) → R (IteT K a) H) : EnumTW K [x] H R := by
  obtain ⟨a, xs, rfl, h1, h2⟩ := h.tup_inv
  exact ⟨a, xs, rfl, .inl (.inl (sb _ _ h1)), k a (src_enumT h1 h2)⟩
theorem w_enum (k : tA σ H fun vs H1 => EnumW K vs H1 R) : iEnum K tA σ H R := k
theorem w_enumK (sb : Same B H) (h : Is B (.list ds) x) (k : ∀ a, Src (Ite K a) B (((nums ds.length).zip ds).map fun p => .tuple [p.1, p.2]) → R (Ite K a) H) : EnumW K [x] H R := by
  obtain ⟨a, xs, rfl, h1, h2⟩ := h.lst_inv
  exact ⟨a, xs, rfl, .inl (.inl (sb _ _ h1)), k a (src_enumL h1 h2)⟩
theorem w_zip (k : tA σ H fun vs H1 => ZipW K vs H1 R) : iZip K tA σ H R := k
theorem w_zipK (sb : Same B H) (h : Is B (.list ds) x) (h' : Is B (.list es) y) (k : ∀ a b, Src (Itz K a b) B ((ds.zip es).map fun p => .tuple [p.1, p.2]) → R (Itz K a b) H) : ZipW K [x, y] H R := by
  obtain ⟨a, xs, rfl, h1, h2⟩ := h.lst_inv
  obtain ⟨a', xs', rfl, h1', h2'⟩ := h'.lst_inv
  exact ⟨a, a', xs, xs', rfl, .inl (.inl (sb _ _ h1)), .inl (.inl (sb _ _ h1')), k a a' (src_zipL h1 h2 h1' h2')⟩
theorem w_zipM (k : tA σ H fun vs H1 => ZipMW K vs H1 R) : iZipM K tA σ H R := k
theorem w_zipMK (sb : Same B H) (h : Is B (.tuple ds) x) (h' : Is B (.list es) y) (k : ∀ a b, Src (ItzM K a b) B ((ds.zip es).map fun p => .tuple [p.1, p.2]) → R (ItzM K a b) H) : ZipMW K [x, y] H R := by
  obtain ⟨a, xs, rfl, h1, h2⟩ := h.tup_inv
  obtain ⟨a', xs', rfl, h1', h2'⟩ := h'.lst_inv
  exact ⟨a, a', xs, xs', rfl, .inl (.inl (sb _ _ h1)), .inl (.inl (sb _ _ h1')), k a a' (src_zipM h1 h2 h1' h2')⟩
theorem w_zipA (k : tA σ H fun vs H1 => ZipAW K vs H1 R) : RZ.iZipA K tA σ H R := k
theorem w_zipTK (sb : Same B H) (h : Is B (.tuple ds) x) (h' : Is B (.tuple es) y) (k : ∀ a b, Src (RZ.ItzT K a b) B ((ds.zip es).map fun p => .tuple [p.1, p.2]) → R (RZ.ItzT K a b) H) :
    ZipAW K [x, y] H R := by
  obtain ⟨a, xs, rfl, h1, h2⟩ := h.tup_inv
  obtain ⟨a', xs', rfl, h1', h2'⟩ := h'.tup_inv
  exact ⟨a, a', xs, xs', rfl, .inr ⟨.inl (.inl (sb _ _ h1)), .inl (.inl (sb _ _ h1')), k a a' (src_zipT h1 h2 h1' h2')⟩⟩
theorem w_rng (k : te σ H fun x H1 => RngW x H1 R) : iRng te σ H R := k
theorem w_rngK {n : Nat} {j : Int} {a : Addr} (e : j = (n : Int)) (hn : n < 1000000) (h : H a = some (.rng 0 j)) (k : R (Itr 0 n) H) : RngW (.ref a) H R := by
  subst e
  exact ⟨a, _, rfl, h, by omega, by omega, by simpa using k⟩
end

mutual
theorem dp_of {K : PySem.W.Frag} {H : Hp} {M : List Addr} : ∀ {d : PyData} {v : V}, Is (hol M H) d v → Dp K H v d
  | _, _, .non => .non
  | _, _, .bl b => .bl b
  | _, _, .int i => .int i
  | _, _, .str x => .str x
  | _, _, .lst h r => .lst (.inl (.inl (hol_le _ _ h))) (dpa_of r)
  | _, _, .tup h r => .tup (.inl (.inl (hol_le _ _ h))) (dpa_of r)
theorem dpa_of {K : PySem.W.Frag} {H : Hp} {M : List Addr} : ∀ {ds : List PyData} {vs : List V}, IsA (hol M H) ds vs → DpAll K H vs ds
  | _, _, .nil => .nil
  | _, _, .cons h r => .cons (dp_of h) (dpa_of r)
end
theorem lay_map {α : Type} (f : α → PyData) (h : ∀ a, PyData.canLay0 (f a) = true) : ∀ l : List α, PyData.canLayAll0 (l.map f) = true
  | [] => by simp [PyData.canLayAll0]
  | a :: l => by simp [PyData.canLayAll0, h a, lay_map f h l]
theorem depth_map {α : Type} (f : α → PyData) (n : Nat) (h : ∀ a, PyData.depth (f a) ≤ n) : ∀ l : List α, PyData.depthAll (l.map f) ≤ n
  | [] => by simp [PyData.depthAll]
  | a :: l => by
    have := depth_map f n h l
    have := h a
    simp only [List.map_cons, PyData.depthAll]
    omega
def Cmp (n : Nat) (d : PyData) : Prop := PyData.canLay0 d = true ∧ PyData.depth d ≤ n
theorem Cmp.shaped {n : Nat} {d : PyData} (h : Cmp n d) (hn : n ≤ 64) : SeqAt.shaped d = true := by
  unfold SeqAt.shaped
  rw [h.1, decide_eq_true (Nat.le_trans h.2 hn)]
  rfl
theorem Cmp.lst {α : Type} {n : Nat} {f : α → PyData} (h : ∀ a, Cmp n (f a)) (l : List α) : Cmp (n + 1) (.list (l.map f)) :=
  ⟨by simp only [PyData.canLay0]; exact lay_map f (fun a => (h a).1) l, by
    have := depth_map f n (fun a => (h a).2) l
    simp only [PyData.depth]
    omega⟩
theorem Cmp.tup {α : Type} {n : Nat} {f : α → PyData} (h : ∀ a, Cmp n (f a)) (l : List α) : Cmp (n + 1) (.tuple (l.map f)) :=
  ⟨by simp only [PyData.canLay0]; exact lay_map f (fun a => (h a).1) l, by
    have := depth_map f n (fun a => (h a).2) l
    simp only [PyData.depth]
    omega⟩
theorem Cmp.int (i : Int) : Cmp 0 (.int i) := ⟨by simp [PyData.canLay0], by simp [PyData.depth]⟩
theorem Cmp.pair {n : Nat} {d e : PyData} (h : Cmp n d) (h' : Cmp n e) : Cmp (n + 1) (.tuple [d, e]) :=
  ⟨by simp [PyData.canLay0, PyData.canLayAll0, h.1, h'.1], by
    have := h.2
    have := h'.2
    simp only [PyData.depth, PyData.depthAll]
    omega⟩
theorem Cmp.mono {n m : Nat} {d : PyData} (h : Cmp n d) (hl : n ≤ m) : Cmp m d := ⟨h.1, Nat.le_trans h.2 hl⟩
section
variable {K : PySem.W.Frag} {H : Hp} {Q : VK} {x y v : V} {M : List Addr} {ds es : List PyData} {d e : PyData}
theorem g_eqD {n m : Nat} (cu : Cur M) (h : Is (hol M H) d x) (h' : Is (hol M H) e y) (c : Cmp n d) (c' : Cmp m e) (hn : n ≤ 64) (hm : m ≤ 64) (k : Q (.bl (PyData.eqv d e)) H) : rEqD K x y H Q := ⟨d, e, dp_of h, dp_of h', c.shaped hn, c'.shaped hm, k⟩
theorem g_neD {n m : Nat} (cu : Cur M) (h : Is (hol M H) d x) (h' : Is (hol M H) e y) (c : Cmp n d) (c' : Cmp m e) (hn : n ≤ 64) (hm : m ≤ 64) (k : Q (.bl (!PyData.eqv d e)) H) : rNeD K x y H Q := ⟨d, e, dp_of h, dp_of h', c.shaped hn, c'.shaped hm, k⟩
theorem g_inD {n m : Nat} (cu : Cur M) (h : Is (hol M H) d x) (h' : Is (hol M H) (.list es) y) (c : Cmp n d) (c' : Cmp m (.list es)) (hn : n ≤ 64) (hm : m ≤ 64) (k : Q (.bl (es.any fun z => PyData.eqv z d)) H) : rInD K x y H Q := ⟨d, es, dp_of h, dp_of h', c.shaped hn, c'.shaped hm, k⟩
end
theorem Dom.holm {A B : Hp} {N M : List Addr} (h : Same A (hol N B)) (d : Dom M A) : Dom M B := d.mono (h.trans hol_le)
theorem g_wipe {σ σ2 : L2.St} {vs : List Nat} {P : Prop} (e : wipe σ2 vs = wipe σ vs) (k : P) : wipe σ2 vs = wipe σ vs ∧ P := ⟨e, k⟩
def SpF {α : Type} (args : α → List PyData) (ok : α → Prop) (res : α → PyData → Prop) : Sp := fun vs H Q _ => ∃ (M : List Addr) (a : α), Dom M H ∧ ok a ∧ IsA (hol M H) (args a) vs ∧ ∀ d v H', res a d → Same H H' → Is (hol M H') d v → Q v H'
theorem g_SpF {α : Type} {args : α → List PyData} {ok : α → Prop} {res : α → PyData → Prop} {vs : List V} {H : Hp} {Q : VK} {E : XK} {M : List Addr} (cu : Cur M) (a : α) (dm : Dom M H) (h : IsA (hol M H) (args a) vs) (o : ok a)
    (k : ∀ d v H', res a d → Same H H' → Is (hol M H') d v → Q v H') : SpF args ok res vs H Q E := ⟨M, a, dm, o, h, k⟩
theorem SpF.len {α : Type} {args : α → List PyData} {ok : α → Prop} {res : α → PyData → Prop} {vs : List V} {H : Hp} {Q : VK} {E : XK} {n : Nat} (hn : ∀ a, (args a).length = n) (h : SpF args ok res vs H Q E) : vs.length = n := by
  obtain ⟨M, a, _, _, h, _⟩ := h
  rw [h.len, hn]

structure Gate where
  name : Str
  tab : PyData
  nets : List Str
  rngs : List (Int × Int)
structure Circ where
  ins : List Str
  gates : List Gate
  regs : List (Str × List PyData)
  outs : PyData
@[reducible] def encP (p : Int × Int) : PyData := .tuple [.int p.1, .int p.2]
@[reducible] def encG (g : Gate) : PyData := .tuple [.str g.name, g.tab, .tuple (g.nets.map PyData.str), .tuple (g.rngs.map encP)]
@[reducible] def encR (r : Str × List PyData) : PyData := .tuple (.str r.1 :: r.2)
@[reducible] def encC (c : Circ) : PyData := .tuple [.tuple (c.ins.map PyData.str), .tuple (c.gates.map encG), .tuple (c.regs.map encR), c.outs]
def srcs (c : Circ) : List Str := c.ins ++ c.regs.map (·.1)
def nets (c : Circ) : List Str := srcs c ++ c.gates.map (·.name)
@[reducible] def encS (s : Int × List (Int × Int)) : PyData := .tuple [.int s.1, .tuple (s.2.map encP)]
@[reducible] def encSS (l : List (List (Int × List (Int × Int)))) : PyData := .list (l.map fun r => .list (r.map encS))
@[reducible] def encCh (l : List Nat) : PyData := .list (l.map fun k => PyData.int ((k : Nat) : Int))
theorem at0 {α : Type} {a : α} {l : List α} : atI (a :: l) 0 = some a := atI_nat (j := 0) rfl
theorem at1 {α : Type} {a b : α} {l : List α} : atI (a :: b :: l) 1 = some b := atI_nat (j := 1) rfl
theorem at2 {α : Type} {a b c : α} {l : List α} : atI (a :: b :: c :: l) 2 = some c := atI_nat (j := 2) rfl
theorem at3 {α : Type} {a b c d : α} {l : List α} : atI (a :: b :: c :: d :: l) 3 = some d := atI_nat (j := 3) rfl
theorem at4 {α : Type} {a b c d e : α} {l : List α} : atI (a :: b :: c :: d :: e :: l) 4 = some e := atI_nat (j := 4) rfl
theorem atM {α β : Type} {l : List α} {f : α → β} {j : Nat} {a : α} (h : l[j]? = some a) : atI (l.map f) (j : Int) = some (f a) := atI_nat (by rw [List.getElem?_map, h]; rfl)
theorem atJ {α : Type} {l : List α} {j : Nat} {a : α} (h : l[j]? = some a) : atI l (j : Int) = some a := atI_nat h
theorem fm_some {α β : Type} (f : α → β) : ∀ l : List α, l.filterMap (fun x => some (f x)) = l.map f
  | [] => rfl
  | a :: l => by rw [List.filterMap_cons, fm_some f l]; rfl
theorem get_map {α β : Type} {l : List α} {f : α → β} {i : Nat} {d : β} (h : (l.map f)[i]? = some d) : ∃ a, l[i]? = some a ∧ d = f a := by
  rw [List.getElem?_map] at h
  obtain ⟨a, h1, h2⟩ := Option.map_eq_some_iff.mp h
  exact ⟨a, h1, h2.symm⟩
theorem cmp_P (p : Int × Int) : Cmp 1 (encP p) := (Cmp.int _).pair (Cmp.int _)
theorem cmp_S (s : Int × List (Int × Int)) : Cmp 3 (encS s) := ((Cmp.int s.1).mono (by decide)).pair ((Cmp.tup cmp_P s.2).mono (by decide))
theorem cmp_SS (l : List (List (Int × List (Int × Int)))) : Cmp 5 (encSS l) := Cmp.lst (fun r => Cmp.lst cmp_S r) l
end Sg
namespace Sg
open PySem PySem.Spec PyProof.Rows L2
theorem long_of {n : Nat} : ∀ {l : List Nat}, (∀ i, i < n → i ∈ l) → n ≤ l.length := by
  induction n with
  | zero => intro l _; exact Nat.zero_le _
  | succ n ih =>
    intro l h
    have hm := h n (Nat.lt_succ_self n)
    have h2 : ∀ i, i < n → i ∈ l.erase n := fun i hi => (List.mem_erase_of_ne (by omega)).mpr (h i (by omega))
    have h3 := ih h2
    rw [List.length_erase_of_mem hm] at h3
    have : 0 < l.length := List.length_pos_of_mem hm
    omega
theorem short_of {n : Nat} : ∀ {l : List Nat}, l.Nodup → (∀ i ∈ l, i < n) → l.length ≤ n := by
  induction n with
  | zero =>
    intro l _ h
    cases l with
    | nil => exact Nat.le_refl _
    | cons a l => exact absurd (h a List.mem_cons_self) (Nat.not_lt_zero _)
  | succ n ih =>
    intro l hn h
    have h1 : (l.erase n).Nodup := hn.erase n
    have h2 : ∀ i ∈ l.erase n, i < n := fun i hi => by
      have := (hn.mem_erase_iff).mp hi
      have := h i this.2
      omega
    have h3 := ih h1 h2
    by_cases hm : n ∈ l
    · rw [List.length_erase_of_mem hm] at h3
      omega
    · rw [List.erase_of_not_mem hm] at h3
      omega
def ixOf (s : Str) : List Gate → Option Nat
  | [] => none
  | g :: l => if g.name = s then some 0 else (ixOf s l).map (· + 1)
theorem ixOf_some {s : Str} : ∀ {l : List Gate} {i : Nat}, ixOf s l = some i → ∃ g, l[i]? = some g ∧ g.name = s
  | [], _, h => by simp [ixOf] at h
  | g :: l, i, h => by
    unfold ixOf at h
    by_cases e : g.name = s
    · rw [if_pos e] at h
      cases h
      exact ⟨g, rfl, e⟩
    · rw [if_neg e] at h
      obtain ⟨j, hj, rfl⟩ := Option.map_eq_some_iff.mp h
      obtain ⟨g', h1, h2⟩ := ixOf_some hj
      exact ⟨g', by simpa using h1, h2⟩
theorem ixOf_none {s : Str} : ∀ {l : List Gate}, ixOf s l = none → s ∉ l.map (·.name)
  | [], _ => by simp
  | g :: l, h => by
    unfold ixOf at h
    by_cases e : g.name = s
    · rw [if_pos e] at h
      cases h
    · rw [if_neg e] at h
      have h' : ixOf s l = none := by simpa using h
      have := ixOf_none h'
      simp only [List.map_cons, List.mem_cons, not_or]
      exact ⟨fun q => e q.symm, this⟩
structure Sound (c : Circ) : Prop where
  few : c.ins.length + c.regs.length < 1000
  few2 : c.gates.length < 1000
  nd : (nets c).Nodup
  pins : ∀ g ∈ c.gates, g.rngs.length = g.nets.length ∧ g.nets.length < 1000
  rank : ∃ r : Str → Nat, ∀ g ∈ c.gates, ∀ n ∈ g.nets, n ∈ srcs c ∨ (n ∈ c.gates.map (·.name) ∧ r n < r g.name)
def waits (c : Circ) (g : Gate) : List Nat := g.nets.filterMap fun n => ixOf n c.gates
def Ready (c : Circ) (ord : List Nat) (i : Nat) : Prop := i ∉ ord ∧ ∃ g, c.gates[i]? = some g ∧ ∀ j ∈ waits c g, j ∈ ord
structure Ord (c : Circ) (ord : List Nat) : Prop where
  nd : ord.Nodup
  lt : ∀ i ∈ ord, i < c.gates.length
  topo : ∀ pre i post, ord = pre ++ i :: post → ∃ g, c.gates[i]? = some g ∧ ∀ j ∈ waits c g, j ∈ pre
theorem Ord.nil (c : Circ) : Ord c [] := ⟨List.nodup_nil, fun _ h => by simp at h, fun pre i post h => by simp at h⟩
theorem Ord.snoc {c : Circ} {ord : List Nat} {i : Nat} (h : Ord c ord) (r : Ready c ord i) : Ord c (ord ++ [i]) := by
  obtain ⟨hn, g, hg, hw⟩ := r
  refine ⟨?_, fun j hj => ?_, fun pre k post e => ?_⟩
  · rw [List.nodup_append]
    refine ⟨h.nd, by simp, fun a ha b hb => ?_⟩
    simp at hb
    subst hb
    exact fun q => hn (q ▸ ha)
  · rcases List.mem_append.mp hj with q | q
    · exact h.lt j q
    · simp at q
      subst q
      exact (List.getElem?_eq_some_iff.mp hg).1
  · rcases List.eq_nil_or_concat post with rfl | ⟨p', x, rfl⟩
    · have := List.append_inj_left' e rfl
      have e2 := List.append_inj_right' e rfl
      simp at e2
      subst this e2
      exact ⟨g, hg, hw⟩
    · have e' : ord ++ [i] = (pre ++ k :: p') ++ [x] := by rw [e]; simp
      have e1 := List.append_inj_left' e' rfl
      exact h.topo pre k p' e1
theorem Ord.next {c : Circ} {ord : List Nat} (s : Sound c) (h : Ord c ord) (hl : ord.length < c.gates.length) : ∃ i, Ready c ord i := by
  obtain ⟨r, hr⟩ := s.rank
  have ex : ∃ i, i < c.gates.length ∧ i ∉ ord := by
    apply Classical.byContradiction
    intro no
    have := long_of (n := c.gates.length) (l := ord) fun i hi => Classical.byContradiction fun q => no ⟨i, hi, q⟩
    omega
  have key : ∀ (m : Nat), ∀ i g, c.gates[i]? = some g → i ∉ ord → r g.name < m → ∃ i, Ready c ord i := by
    intro m
    induction m with
    | zero => intro i g _ _ h; exact absurd h (Nat.not_lt_zero _)
    | succ m ih =>
      intro i g hg hi hm
      by_cases hw : ∀ j ∈ waits c g, j ∈ ord
      · exact ⟨i, hi, g, hg, hw⟩
      · have hw : ∃ j, j ∈ waits c g ∧ j ∉ ord := by
          apply Classical.byContradiction
          intro no
          exact hw fun j hj => Classical.byContradiction fun q => no ⟨j, hj, q⟩
        obtain ⟨j, hj, hjo⟩ := hw
        obtain ⟨n, hn, hx⟩ := List.mem_filterMap.mp hj
        obtain ⟨g', hg', e'⟩ := ixOf_some hx
        have mg : g ∈ c.gates := List.mem_of_getElem? hg
        have mg' : g' ∈ c.gates := List.mem_of_getElem? hg'
        have : r g'.name < r g.name := by
          rcases hr g mg n hn with q | q
          · -- a source is no gate's net
            have nd := s.nd
            unfold nets at nd
            rw [List.nodup_append] at nd
            exact absurd rfl (nd.2.2 n q n (by rw [← e']; exact List.mem_map.mpr ⟨g', mg', rfl⟩))
          · rw [e']; exact q.2
        exact ih j g' hg' hjo (by omega)
  obtain ⟨i, hi, hio⟩ := ex
  exact key (r (c.gates[i]).name + 1) i c.gates[i] (List.getElem?_eq_getElem hi) hio (Nat.lt_succ_self _)
theorem Ord.le {c : Circ} {ord : List Nat} (h : Ord c ord) : ord.length ≤ c.gates.length := short_of h.nd h.lt
theorem Ord.all {c : Circ} {ord : List Nat} (h : Ord c ord) (hl : ord.length = c.gates.length) : ∀ i, i < c.gates.length → i ∈ ord := fun i hi => by
  apply Classical.byContradiction
  intro q
  have h1 : (i :: ord).Nodup := List.nodup_cons.mpr ⟨q, h.nd⟩
  have h2 := short_of (n := c.gates.length) h1 fun j hj => by
    rcases List.mem_cons.mp hj with e | e
    · rw [e]; exact hi
    · exact h.lt j e
  simp at h2
  omega
end Sg
namespace Sg
open PySem PySem.Spec PyProof.Rows L2
section
variable {P : Program} {w : World} {K : PySem.W.Frag} {mg : Str → Option Value} {base : Heap}
abbrev s_sources : Stmt := top 10
abbrev N_sources : List Str := ["circuit", "row"]
theorem sc_sources : FnScope N_sources ["circuit"] (defScope s_sources) := ⟨rfl, rfl, rfl, by decide +kernel, rfl, by decide +kernel, by decide +kernel⟩
def rd_sources (K : PySem.W.Frag) : TS :=
    (tRet (tOp rCat (tCB (rListQ K) (tCons (tOp (rIxT K) (tVar 0) (tC (.int 0))) tNil)) (tLc (iTup K (tOp (rIxT K) (tVar 0) (tC (.int 2)))) (gName 1) tYes (tOp (rIxT K) (tVar 1) (tC (.int 0))) [1])))
theorem dv_sources  (T : Bl mg)  {f : Addr} {cdv : Value} {A : Around} {outer : List Env} {s : Shared} {H : Hp} {E : XK} (hr : Room 0 (A.deeper (envOfC "sources" (defScope s_sources) s.heap.objs.size f cdv))) :
    PSs (cxOf CX0 P w K mg base N_sources "sources" (defScope s_sources) f cdv A outer s H E).nox (defBody s_sources) (rd_sources K) :=
  (pss_one (ps_ret (pe_op op_cat (pe_callTy cr_list (by rfl) T.list (by decide +kernel) (pa_cons (pe_ix ix_tup (pv 0) pe_int (fun _ _ => rfl)) pa_nil)) (pe_lc (own := [("row", 1)]) rfl sc_sources.nd (pi_tup (pe_ix ix_tup (pv 0) pe_int (fun _ _ => rfl))) (blkOk_by (own := [("row", 1)]) (N := N_sources) (sc := (defScope s_sources)) (by decide +kernel)) (fun _ _ _ _ _ => (pg_name (i := 1) sc_sources.nd rfl (by first | exact Or.inl rfl | exact Or.inr rfl))) (fun _ _ _ _ _ => pts_nil) (fun _ _ _ _ _ => (pe_ix ix_tup (pv 1) pe_int (fun _ _ => rfl)))))))
abbrev s_all_nets : Stmt := top 11
abbrev N_all_nets : List Str := ["circuit", "gate"]
theorem sc_all_nets : FnScope N_all_nets ["circuit"] (defScope s_all_nets) := ⟨rfl, rfl, rfl, by decide +kernel, rfl, by decide +kernel, by decide +kernel⟩
def rd_all_nets (K : PySem.W.Frag) (sp_sources : Sp) : TS :=
    (tRet (tOp rCat (tCall sp_sources [] E0 (tCons (tVar 0) tNil)) (tLc (iTup K (tOp (rIxT K) (tVar 0) (tC (.int 1)))) (gName 1) tYes (tOp (rIxT K) (tVar 1) (tC (.int 0))) [1])))
theorem dv_all_nets {sp_sources : Sp} (T : Bl mg) (c_sources : Cal P w K mg base 1 "sources" sp_sources) {f : Addr} {cdv : Value} {A : Around} {outer : List Env} {s : Shared} {H : Hp} {E : XK} (hr : Room 1 (A.deeper (envOfC "all_nets" (defScope s_all_nets) s.heap.objs.size f cdv))) :
    PSs (cxOf CX0 P w K mg base N_all_nets "all_nets" (defScope s_all_nets) f cdv A outer s H E).nox (defBody s_all_nets) (rd_all_nets K sp_sources) :=
  (pss_one (ps_ret (pe_op op_cat (pe_cl c_sources hr (by decide) (by rfl) (pa_cons (pv 0) pa_nil)) (pe_lc (own := [("gate", 1)]) rfl sc_all_nets.nd (pi_tup (pe_ix ix_tup (pv 0) pe_int (fun _ _ => rfl))) (blkOk_by (own := [("gate", 1)]) (N := N_all_nets) (sc := (defScope s_all_nets)) (by decide +kernel)) (fun _ _ _ _ _ => (pg_name (i := 1) sc_all_nets.nd rfl (by first | exact Or.inl rfl | exact Or.inr rfl))) (fun _ _ _ _ _ => pts_nil) (fun _ _ _ _ _ => (pe_ix ix_tup (pv 1) pe_int (fun _ _ => rfl)))))))
abbrev s_check_net : Stmt := top 12
abbrev N_check_net : List Str := ["circuit", "net"]
theorem sc_check_net : FnScope N_check_net ["circuit", "net"] (defScope s_check_net) := ⟨rfl, rfl, rfl, by decide +kernel, rfl, by decide +kernel, by decide +kernel⟩
def rd_check_net (K : PySem.W.Frag) (sp_all_nets : Sp) : TS :=
    (tIfS (tTest (tOp (rIn K true) (tVar 1) (tCall sp_all_nets [] E0 (tCons (tVar 0) tNil)))) tNever tNext)
theorem dv_check_net {sp_all_nets : Sp} (T : Bl mg) (c_all_nets : Cal P w K mg base 2 "all_nets" sp_all_nets) {f : Addr} {cdv : Value} {A : Around} {outer : List Env} {s : Shared} {H : Hp} {E : XK} (hr : Room 2 (A.deeper (envOfC "check_net" (defScope s_check_net) s.heap.objs.size f cdv))) :
    PSs (cxOf CX0 P w K mg base N_check_net "check_net" (defScope s_check_net) f cdv A outer s H E).nox (defBody s_check_net) (rd_check_net K sp_all_nets) :=
  (pss_one (ps_if (pt_cmpR op_notIn_seq (pv 1) (pe_cl c_all_nets hr (by decide) (by rfl) (pa_cons (pv 0) pa_nil)) rfl) (pss_one ps_never) pss_nil))
abbrev s_drivers : Stmt := top 13
abbrev N_drivers : List Str := ["circuit", "index", "gate"]
theorem sc_drivers : FnScope N_drivers ["circuit"] (defScope s_drivers) := ⟨rfl, rfl, rfl, by decide +kernel, rfl, by decide +kernel, by decide +kernel⟩
def rd_drivers (K : PySem.W.Frag) : TS :=
    (tRet (tDc (iEnumT K (tCons (tOp (rIxT K) (tVar 0) (tC (.int 1))) tNil)) (gTup K 2 (gCons (gName 1) (gCons (gName 2) gNil))) tYes (tOp (rIxT K) (tVar 2) (tC (.int 0))) (tVar 1) [1, 2]))
theorem dv_drivers  (T : Bl mg)  {f : Addr} {cdv : Value} {A : Around} {outer : List Env} {s : Shared} {H : Hp} {E : XK} (hr : Room 0 (A.deeper (envOfC "drivers" (defScope s_drivers) s.heap.objs.size f cdv))) :
    PSs (cxOf CX0 P w K mg base N_drivers "drivers" (defScope s_drivers) f cdv A outer s H E).nox (defBody s_drivers) (rd_drivers K) :=
  (pss_one (ps_ret (pe_dc (own := [("index", 1), ("gate", 2)]) rfl sc_drivers.nd (pi_enumT (by rfl) T.enumerate (pa_cons (pe_ix ix_tup (pv 0) pe_int (fun _ _ => rfl)) pa_nil)) (blkOk_by (own := [("index", 1), ("gate", 2)]) (N := N_drivers) (sc := (defScope s_drivers)) (by decide +kernel)) (fun _ _ _ _ _ => (pg_tup rfl (pgs_cons (pg_name (i := 1) sc_drivers.nd rfl (by first | exact Or.inl rfl | exact Or.inr rfl)) (pgs_cons (pg_name (i := 2) sc_drivers.nd rfl (by first | exact Or.inl rfl | exact Or.inr rfl)) pgs_nil)))) (fun _ _ _ _ _ => pts_nil) (fun _ _ _ _ _ => (pe_ix ix_tup (pv 2) pe_int (fun _ _ => rfl))) (fun _ _ _ _ _ => (pv 1)))))
abbrev s_gate_order : Stmt := top 14
abbrev N_gate_order : List Str := ["circuit", "driven", "waits", "order", "placed", "ready", "gate", "index", "before", "net", "k"]
theorem sc_gate_order : FnScope N_gate_order ["circuit"] (defScope s_gate_order) := ⟨rfl, rfl, rfl, by decide +kernel, rfl, by decide +kernel, by decide +kernel⟩
def b1_gate_order (K : PySem.W.Frag) (sp_drivers : Sp) : TS :=
    (tIfS (tAnd (tTest (tOp (rI0 fun i j => .bl (decide (i < j))) (tVar 5) (tC (.int 0)))) (tAnd (tB (tDNotIn (tVar 7) (tVar 4))) (tB (tCB (rAll K) (tCons (tLc (iList K (tVar 8)) (gName 10) tYes (tDIn (tVar 10) (tVar 4)) [10]) tNil))))) (tAsg (tVar 7) (gName 5)) tNext)
def b2_gate_order (K : PySem.W.Frag) (sp_drivers : Sp) : TS :=
    (tSeq (tAsg (tUn (rU fun i => .int (-i)) (tC (.int 1))) (gName 5))
    (tSeq (tFor (iEnum K (tCons (tVar 2) tNil)) (gTup K 2 (gCons (gName 7) (gCons (gName 8) gNil))) (b1_gate_order K sp_drivers))
    (tSeq (tIfS (tTest (tOp (rI0 fun i j => .bl (decide (i < j))) (tVar 5) (tC (.int 0)))) tNever tNext)
    (tSeq (sDPut (tVar 4) (tVar 5) (tC (.bl true)))
    (tDrop (tBM K "list" rAppend (tVar 3) (tCons (tVar 5) tNil)))))))
def rd_gate_order (K : PySem.W.Frag) (sp_drivers : Sp) : TS :=
    (tSeq (tAsg (tCall sp_drivers [] E0 (tCons (tVar 0) tNil)) (gName 1))
    (tSeq (tAsg (tLc (iTup K (tOp (rIxT K) (tVar 0) (tC (.int 1)))) (gName 6) tYes (tLc (iTup K (tOp (rIxT K) (tVar 6) (tC (.int 2)))) (gName 9) (tB (tDIn (tVar 9) (tVar 1))) (tDGet (tVar 1) (tVar 9)) [9]) [6]) (gName 2))
    (tSeq (tAsg (tLst tNil) (gName 3))
    (tSeq (tAsg tDNewK (gName 4))
    (tSeq (tWhile (tTest (tOp (rI0 fun i j => .bl (decide (i < j))) (tCB (rLenQ K) (tCons (tVar 3) tNil)) (tCB (rLenQ K) (tCons (tOp (rIxT K) (tVar 0) (tC (.int 1))) tNil)))) (b2_gate_order K sp_drivers))
    (tRet (tVar 3)))))))
theorem dv_gate_order {sp_drivers : Sp} (T : Bl mg) (c_drivers : Cal P w K mg base 1 "drivers" sp_drivers) {f : Addr} {cdv : Value} {A : Around} {outer : List Env} {s : Shared} {H : Hp} {E : XK} (hr : Room 1 (A.deeper (envOfC "gate_order" (defScope s_gate_order) s.heap.objs.size f cdv))) :
    PSs (cxOf CX0 P w K mg base N_gate_order "gate_order" (defScope s_gate_order) f cdv A outer s H E).nox (defBody s_gate_order) (rd_gate_order K sp_drivers) :=
  (pss_cons (ps_set (i := 1) sc_gate_order.nd rfl (by first | exact Or.inl rfl | exact Or.inr rfl) (pe_cl c_drivers hr (by decide) (by rfl) (pa_cons (pv 0) pa_nil)))
    (pss_cons (ps_setLc (i := 2) (own := [("gate", 6)]) rfl sc_gate_order.nd rfl rfl (sw_true rfl rfl rfl (by decide +kernel)) (pi_tup (pe_ix ix_tup (pv 0) pe_int (fun _ _ => rfl))) (blkOk_by (own := [("gate", 6)]) (N := N_gate_order) (sc := (defScope s_gate_order)) (by decide +kernel)) (fun _ _ _ _ _ => (pg_name (i := 6) sc_gate_order.nd rfl (by first | exact Or.inl rfl | exact Or.inr rfl))) (fun _ _ _ _ _ => pts_nil) (fun _ _ _ _ _ => (pe_lc (own := [("net", 9)]) rfl sc_gate_order.nd (pi_tup (pe_ix ix_tup (pv 6) pe_int (fun _ _ => rfl))) (blkOk_by (own := [("net", 9)]) (N := N_gate_order) (sc := (relS (lcScope (stVal ((defBody s_gate_order).getD 1 (.Pass ⟨0, 0, 0, 0⟩)))) (defScope s_gate_order))) (by decide +kernel)) (fun _ _ _ _ _ => (pg_name (i := 9) sc_gate_order.nd rfl (by first | exact Or.inl rfl | exact Or.inr rfl))) (fun _ _ _ _ _ => (pts_one (pt_cmp (pc_din (hu_of hr) (pv 9) (pv 1))))) (fun _ _ _ _ _ => (pe_dget (hu_of hr) (pv 1) (pv 9) (fun _ _ => rfl))))))
    (pss_cons (ps_set (i := 3) sc_gate_order.nd rfl (by first | exact Or.inl rfl | exact Or.inr rfl) (pe_lst pa_nil))
    (pss_cons (ps_set (i := 4) sc_gate_order.nd rfl (by first | exact Or.inl rfl | exact Or.inr rfl) pe_dnewK)
    (pss_cons (ps_while PassesOwn.never (pt_cmpR op_lt (pe_callB cr_len (by rfl) T.len (by decide +kernel) (pa_cons (pv 3) pa_nil)) (pe_callB cr_len (by rfl) T.len (by decide +kernel) (pa_cons (pe_ix ix_tup (pv 0) pe_int (fun _ _ => rfl)) pa_nil)) (nomark _)) (pss_cons (ps_set (i := 5) sc_gate_order.nd rfl (by first | exact Or.inl rfl | exact Or.inr rfl) (pe_un un_neg pe_int))
    (pss_cons (ps_for PassesOwn.never rfl (pi_enum (by rfl) T.enumerate (pa_cons (pv 2) pa_nil)) (pg_tup rfl (pgs_cons (pg_name (i := 7) sc_gate_order.nd rfl (by first | exact Or.inl rfl | exact Or.inr rfl)) (pgs_cons (pg_name (i := 8) sc_gate_order.nd rfl (by first | exact Or.inl rfl | exact Or.inr rfl)) pgs_nil))) (pss_one (ps_if (PW.pt (pw_and (pt_cmpR op_lt (pv 5) pe_int (nomark _)) (pw_and (pt_cmp (pc_dnotin (hu_of hr) (pv 7) (pv 4))) (pw_and1 (pt_val (pe_callB (cr_all rfl) (by rfl) T.all (by decide +kernel) (pa_cons (pe_lc (own := [("k", 10)]) rfl sc_gate_order.nd (pi_list (pv 8)) (blkOk_by (own := [("k", 10)]) (N := N_gate_order) (sc := (defScope s_gate_order)) (by decide +kernel)) (fun _ _ _ _ _ => (pg_name (i := 10) sc_gate_order.nd rfl (by first | exact Or.inl rfl | exact Or.inr rfl))) (fun _ _ _ _ _ => pts_nil) (fun _ _ _ _ _ => (pe_cmp (pc_din (hu_of hr) (pv 10) (pv 4)) rfl))) pa_nil))))))) (pss_one (ps_set (i := 5) sc_gate_order.nd rfl (by first | exact Or.inl rfl | exact Or.inr rfl) (pv 7))) pss_nil)))
    (pss_cons (ps_if (pt_cmpR op_lt (pv 5) pe_int (nomark _)) (pss_one ps_never) pss_nil)
    (pss_cons (ps_dput (hu_of hr) (pv 4) (pv 5) pe_bl rfl)
    (pss_one (ps_expr (pe_bm PySem.F.plainAttrs_list PySem.F.slot_list_append PySem.F.type_list_append mt_append (pv 3) (pa_cons (pv 5) pa_nil)))))))))
    (pss_one (ps_ret (pv 3))))))))
end
end Sg
namespace Sg
open PySem PySem.Spec PyProof.Rows L2
local macro_rules | `(tactic| walk_at "ex") => `(tactic| first
  | exact Same.refl _
  | exact hol_le
  | assumption
  | (refine Same.on ?r (same_hol (H := ?b) ?h); (case h => assumption); walk_at "ex")
  | (refine Same.on ?r (Upd.hol (l := ?l) (H := ?b) ?h ?m); (case h => assumption); (case m => simp); walk_at "ex")
  | (refine Same.on (B := ?b) ?r ?h; (case h => assumption); walk_at "ex")
  | (refine Same.on ?r (same1 (A := ?b) ?h); (case h => assumption); walk_at "ex")
  | (refine Same.on ?r (same2 (A := ?b) ?h); (case h => assumption); walk_at "ex")
  | (refine Same.on ?r (hol_le (M := ?m)); walk_at "ex"))
local macro_rules | `(tactic| walk_at "dom") => `(tactic| first
  | assumption
  | exact Dom.nil
  | (refine Dom.mono (H := ?b) ?h ?d; (case h => assumption); walk_at "dom")
  | (refine Dom.cons (o := ?o) ?h ?d; (case h => assumption); walk_at "dom")
  | (refine Dom.holm (A := ?b) (N := ?n) ?h ?d; (case h => assumption); walk_at "dom")
  | (refine Upd.dom (l := ?l) (H := ?b) (o := ?o) ?h ?e ?d; (case h => assumption); (case e => assumption); walk_at "dom"))
local macro_rules | `(tactic| walk_at "is") => `(tactic| first
  | assumption
  | exact Is.int _
  | exact Is.str _
  | exact Is.bl _
  | exact Is.non
  | (refine Is.mono (H := ?b) ?s ?h; (case h => assumption); walk_at "ex"))
local macro_rules | `(tactic| walk_at "isa") => `(tactic| first
  | exact IsA.nil
  | (refine IsA.cons ?a ?b; (case a => walk_at "is"); walk_at "isa")
  | (refine IsA.mono (H := ?b) ?s ?h; (case h => assumption); walk_at "ex"))
local macro_rules | `(tactic| walk_at "at") => `(tactic| first
  | exact at0
  | exact at1
  | exact at2
  | exact at3
  | exact at4
  | (refine atM ?h; assumption)
  | (refine atJ ?h; assumption))
local macro_rules | `(tactic| walk_at "sc") => `(tactic| (intro v hv; first
  | ((with_reducible have e := Is.int_inv hv); subst e; clear hv)
  | ((with_reducible have e := Is.str_inv hv); subst e; clear hv)
  | ((with_reducible have e := Is.bool_inv hv); subst e; clear hv)
  | ((with_reducible have e := Is.none_inv hv); subst e; clear hv)
  | skip))
local macro_rules | `(tactic| walk_at "g") => `(tactic| first
  | with_reducible refine g_seq ?_
  | with_reducible refine g_asg ?_
  | with_reducible refine g_ret ?_
  | with_reducible refine g_drop ?_
  | with_reducible refine g_ifS ?_
  | with_reducible refine g_next ?_
  | with_reducible refine g_break ?_
  | with_reducible refine g_for ?_
  | with_reducible refine g_op ?_
  | ((with_reducible refine g_var (v := ?v) ?h ?k); (case h => exact rfl))
  | with_reducible refine g_c ?_
  | with_reducible refine g_I0 ?_
  | with_reducible refine g_U ?_
  | with_reducible refine g_cons ?_
  | with_reducible refine g_nil ?_
  | with_reducible refine g_cb ?_
  | with_reducible refine g_call ?_
  | with_reducible refine g_test ?_
  | with_reducible refine g_bl ?_
  | with_reducible refine g_int ?_
  | with_reducible refine g_B ?_
  | ((with_reducible refine g_wipe ?e ?k); (case e => exact rfl))
  | with_reducible refine g_iteT ?_
  | with_reducible refine g_iteF ?_
  | with_reducible refine g_andK ?_
  | with_reducible refine g_orK ?_
  | with_reducible refine g_notK ?_
  | ((with_reducible refine w_tupK (B := ?b) (ds := ?ds) ?s ?h ?k); (case h => assumption); (case s => walk_at "ex"); intro a S)
  | ((with_reducible refine w_listK (B := ?b) (ds := ?ds) ?s ?h ?k); (case h => assumption); (case s => walk_at "ex"); intro a S)
  | ((with_reducible refine w_enumK (B := ?b) (ds := ?ds) ?s ?h ?k); (case h => assumption); (case s => walk_at "ex"); intro a S)
  | ((with_reducible refine w_enumTK (B := ?b) (ds := ?ds) ?s ?h ?k); (case h => assumption); (case s => walk_at "ex"); intro a S)
  | ((with_reducible refine g_listOf (M := ?m) (ds := ?ds) ?c ?d ?h ?k); (case c => assumption); (case d => walk_at "dom"); (case h => first | (refine Or.inl ?_; walk_at "is") | (refine Or.inr ?_; walk_at "is")); intro v H' hs hv)
  | ((with_reducible refine g_tupOf (M := ?m) (ds := ?ds) ?c ?d ?h ?k); (case c => assumption); (case d => walk_at "dom"); (case h => walk_at "is"); intro v H' hs hv)
  | ((with_reducible refine g_tupK (M := ?m) (ds := ?ds) ?c ?d ?h ?l ?k); (case c => assumption); (case d => walk_at "dom"); (case h => walk_at "isa"); (case l => (simp only [List.length_cons, List.length_nil]; omega)); intro v H' hs hv)
  | ((with_reducible refine g_tupT (M := ?m) (ds := ?ds) ?c ?h ?e ?k); (case c => assumption); (case h => walk_at "is"); (case e => rfl); intro xs hxs)
  | with_reducible refine g_and ?_
  | with_reducible refine g_or ?_
  | with_reducible refine g_not ?_
  | with_reducible refine g_yes ?_
  | with_reducible refine g_tru ?_
  | with_reducible refine g_fld ?_
  | with_reducible refine g_meth ?_
  | with_reducible refine g_make ?_
  | with_reducible refine g_tupE ?_
  | with_reducible refine g_lstE ?_
  | with_reducible refine g_sl ?_
  | with_reducible refine g_part ?_
  | with_reducible refine g_nopart ?_
  | with_reducible refine g_bm ?_
  | with_reducible refine g_bm0 ?_
  | with_reducible refine g_if ?_
  | with_reducible refine g_un ?_
  | with_reducible refine g_isN ?_
  | with_reducible refine g_notN ?_
  | with_reducible refine g_andV ?_
  | with_reducible refine g_orV ?_
  | with_reducible refine g_notV ?_
  | with_reducible refine g_lc ?_
  | with_reducible refine g_dget ?_
  | with_reducible refine g_din ?_
  | with_reducible refine g_dnotin ?_
  | with_reducible refine g_fldS ?_
  | with_reducible refine g_dput ?_
  | with_reducible refine g_sub ?_
  | with_reducible refine g_consT ?_
  | with_reducible refine g_nilT ?_
  | ((with_reducible refine g_name (σ' := ?s) ?h ?k); (case h => (dsimp only [List.set]; exact rfl)))
  | with_reducible refine w_list ?_
  | with_reducible refine w_tup ?_
  | with_reducible refine w_rng1 ?_
  | with_reducible refine w_enumT ?_
  | with_reducible refine w_enum ?_
  | with_reducible refine w_zip ?_
  | with_reducible refine w_zipM ?_
  | with_reducible refine w_zipA ?_
  | with_reducible refine w_rng ?_
  | with_reducible refine g_int1 ?_
  | ((with_reducible refine g_ixT (M := ?m) (ds := ?ds) (d := ?d) ?c ?h ?e ?k); (case c => assumption); (case h => walk_at "is"); (case e => walk_at "at"); walk_at "sc")
  | ((with_reducible refine g_ixL (M := ?m) (ds := ?ds) (d := ?d) ?c ?h ?e ?k); (case c => assumption); (case h => walk_at "is"); (case e => walk_at "at"); walk_at "sc")
  | ((with_reducible refine g_lenL (M := ?m) (ds := ?ds) ?c ?h ?k); (case c => assumption); (case h => walk_at "is"))
  | ((with_reducible refine g_lenT (M := ?m) (ds := ?ds) ?c ?h ?k); (case c => assumption); (case h => walk_at "is")))
local macro_rules | `(tactic| walk_at "len") => `(tactic| ((try simp only [List.length_map, List.length_append, List.length_cons, List.length_nil, List.length_range, List.length_zip]); omega))
local macro_rules | `(tactic| walk_at "gg") => `(tactic| repeat walk_at "g")
def spSources : Sp := SpF (fun c : Circ => [encC c]) (fun c => c.ins.length + c.regs.length < 1000) fun c d => d = .list ((srcs c).map PyData.str)
theorem r_sources {K : PySem.W.Frag} {vs : List V} {H : Hp} {Q : VK} {E : XK} {n b c : L2.St → Hp → Prop} (h : spSources vs H Q E) : rd_sources K ⟨n, Q, b, c⟩ (start N_sources vs) H := by
  obtain ⟨M, ci, dm, ok, hv, k⟩ := h
  obtain ⟨v, r, rfl, is1, hr⟩ := hv.cons_inv
  obtain rfl := hr.nil_inv
  have cu := Sg.cur M
  show rd_sources K _ [some v, none] H
  unfold rd_sources
  walk_at "gg"
  refine lc_map ‹Src _ _ _› (fun r : Str × List PyData => some (.str r.1)) cu (by walk_at "dom") (by walk_at "ex") (by omega) (fun i a x L H' Y No hd cu dm sM s0 is1 kY kN => ?_) (fun v H' hs hv => ?_)
  · show gName 1 x [some v, none] H' _
    walk_at "gg"
    exact kY _ _ _ (Same.refl _) (Is.str _) rfl
  refine g_cat (M := M) cu (by walk_at "dom") (by walk_at "is") hv (by rw [fm_some]; walk_at "len") (fun v H2 hs2 hv2 => ?_)
  refine k _ _ _ rfl (by walk_at "ex") ?_
  rw [fm_some] at hv2
  show Is _ (.list ((ci.ins ++ ci.regs.map (·.1)).map PyData.str)) v
  rw [List.map_append, List.map_map]
  exact hv2
theorem ok_sources {P : Program} {w : World} {K : PySem.W.Frag} {mg : Str → Option Value} {base : Heap} {f : Addr} {fd : FuncData} (F : Fun K "sources" "sources" s_sources f fd) (T : Bl mg) : FnOk P w K mg base CX0 1 f fd ["circuit"] spSources :=
  F.ok sc_sources (fun vs H Q E h => SpF.len (n := 1) (fun _ => rfl) h) fun cdv A outer s H vs Q E hr h => ⟨_, dv_sources T hr, r_sources h⟩
def spAllNets : Sp := SpF (fun c : Circ => [encC c]) (fun c => c.ins.length + c.regs.length < 1000 ∧ c.gates.length < 1000) fun c d => d = .list ((nets c).map PyData.str)
theorem r_all_nets {K : PySem.W.Frag} {vs : List V} {H : Hp} {Q : VK} {E : XK} {n b c : L2.St → Hp → Prop} (h : spAllNets vs H Q E) : rd_all_nets K spSources ⟨n, Q, b, c⟩ (start N_all_nets vs) H := by
  obtain ⟨M, ci, dm, ⟨ok, ok2⟩, hv, k⟩ := h
  obtain ⟨v, r, rfl, is1, hr⟩ := hv.cons_inv
  obtain rfl := hr.nil_inv
  have cu := Sg.cur M
  show rd_all_nets K _ _ [some v, none] H
  unfold rd_all_nets
  walk_at "gg"
  refine g_SpF cu ci (by walk_at "dom") (by walk_at "isa") ok (fun d v' H' hd hs hv' => ?_)
  subst hd
  walk_at "gg"
  refine lc_map ‹Src _ _ _› (fun r : Gate => some (.str r.name)) cu (by walk_at "dom") (by walk_at "ex") (by omega) (fun i a x L H' Y No hd cu dm sM s0 is1 kY kN => ?_) (fun v H' hs hv => ?_)
  · show gName 1 x [some v, none] H' _
    walk_at "gg"
    exact kY _ _ _ (Same.refl _) (Is.str _) rfl
  refine g_cat (M := M) cu (by walk_at "dom") (by walk_at "is") hv (by rw [fm_some]; unfold srcs; walk_at "len") (fun v H2 hs2 hv2 => ?_)
  refine k _ _ _ rfl (by walk_at "ex") ?_
  rw [fm_some] at hv2
  show Is _ (.list ((srcs ci ++ ci.gates.map (·.name)).map PyData.str)) v
  rw [List.map_append, List.map_map]
  exact hv2
theorem ok_all_nets {P : Program} {w : World} {K : PySem.W.Frag} {mg : Str → Option Value} {base : Heap} {f : Addr} {fd : FuncData} (F : Fun K "all_nets" "all_nets" s_all_nets f fd) (T : Bl mg) (c1 : Cal P w K mg base 1 "sources" spSources) : FnOk P w K mg base CX0 2 f fd ["circuit"] spAllNets :=
  F.ok sc_all_nets (fun vs H Q E h => SpF.len (n := 1) (fun _ => rfl) h) fun cdv A outer s H vs Q E hr h => ⟨_, dv_all_nets T c1 hr, r_all_nets h⟩
def spCheckNet : Sp := SpF (fun p : Circ × Str => [encC p.1, .str p.2]) (fun p => (p.1.ins.length + p.1.regs.length < 1000 ∧ p.1.gates.length < 1000) ∧ p.2 ∈ nets p.1) fun c d => d = .none
theorem r_check_net {K : PySem.W.Frag} {vs : List V} {H : Hp} {Q : VK} {E : XK} {b c : L2.St → Hp → Prop} (h : spCheckNet vs H Q E) : rd_check_net K spAllNets ⟨fun _ H' => Q .non H', Q, b, c⟩ (start N_check_net vs) H := by
  obtain ⟨M, ⟨ci, nm⟩, dm, ⟨ok, ok2⟩, hv, k⟩ := h
  obtain ⟨v, r, rfl, is1, hr⟩ := hv.cons_inv
  obtain ⟨v2, r, rfl, is2, hr⟩ := hr.cons_inv
  obtain rfl := hr.nil_inv
  obtain rfl := is2.str_inv
  have cu := Sg.cur M
  show rd_check_net K _ _ [some v, some (.str nm)] H
  unfold rd_check_net
  walk_at "gg"
  refine g_SpF cu ci (by walk_at "dom") (by walk_at "isa") ok (fun d v' H' hd hs hv' => ?_)
  subst hd
  refine g_niS cu hv' ?_
  walk_at "gg"
  rw [decide_eq_true ok2]
  walk_at "gg"
  exact k _ _ _ rfl (by walk_at "ex") Is.non
theorem ok_check_net {P : Program} {w : World} {K : PySem.W.Frag} {mg : Str → Option Value} {base : Heap} {f : Addr} {fd : FuncData} (F : Fun K "check_net" "check_net" s_check_net f fd) (T : Bl mg) (c1 : Cal P w K mg base 2 "all_nets" spAllNets) : FnOk P w K mg base CX0 3 f fd ["circuit", "net"] spCheckNet :=
  F.ok sc_check_net (fun vs H Q E h => SpF.len (n := 2) (fun _ => rfl) h) fun cdv A outer s H vs Q E hr h => ⟨_, dv_check_net T c1 hr, r_check_net h⟩

end Sg
namespace Sg
open PySem PySem.Spec PyProof.Rows L2
local macro_rules | `(tactic| walk_at "ex") => `(tactic| first
  | exact Same.refl _
  | exact hol_le
  | assumption
  | (refine Same.on ?r (same_hol (H := ?b) ?h); (case h => assumption); walk_at "ex")
  | (refine Same.on ?r (Upd.hol (l := ?l) (H := ?b) ?h ?m); (case h => assumption); (case m => simp); walk_at "ex")
  | (refine Same.on (B := ?b) ?r ?h; (case h => assumption); walk_at "ex")
  | (refine Same.on ?r (same1 (A := ?b) ?h); (case h => assumption); walk_at "ex")
  | (refine Same.on ?r (same2 (A := ?b) ?h); (case h => assumption); walk_at "ex")
  | (refine Same.on ?r (hol_le (M := ?m)); walk_at "ex"))
local macro_rules | `(tactic| walk_at "dom") => `(tactic| first
  | assumption
  | exact Dom.nil
  | (refine Dom.mono (H := ?b) ?h ?d; (case h => assumption); walk_at "dom")
  | (refine Dom.cons (o := ?o) ?h ?d; (case h => assumption); walk_at "dom")
  | (refine Dom.holm (A := ?b) (N := ?n) ?h ?d; (case h => assumption); walk_at "dom")
  | (refine Upd.dom (l := ?l) (H := ?b) (o := ?o) ?h ?e ?d; (case h => assumption); (case e => assumption); walk_at "dom"))
local macro_rules | `(tactic| walk_at "is") => `(tactic| first
  | assumption
  | exact Is.int _
  | exact Is.str _
  | exact Is.bl _
  | exact Is.non
  | (refine Is.mono (H := ?b) ?s ?h; (case h => assumption); walk_at "ex"))
local macro_rules | `(tactic| walk_at "isa") => `(tactic| first
  | exact IsA.nil
  | (refine IsA.cons ?a ?b; (case a => walk_at "is"); walk_at "isa")
  | (refine IsA.mono (H := ?b) ?s ?h; (case h => assumption); walk_at "ex"))
local macro_rules | `(tactic| walk_at "at") => `(tactic| first
  | exact at0
  | exact at1
  | exact at2
  | exact at3
  | exact at4
  | (refine atM ?h; assumption)
  | (refine atJ ?h; assumption))
local macro_rules | `(tactic| walk_at "sc") => `(tactic| (intro v hv; first
  | ((with_reducible have e := Is.int_inv hv); subst e; clear hv)
  | ((with_reducible have e := Is.str_inv hv); subst e; clear hv)
  | ((with_reducible have e := Is.bool_inv hv); subst e; clear hv)
  | ((with_reducible have e := Is.none_inv hv); subst e; clear hv)
  | skip))
local macro_rules | `(tactic| walk_at "g") => `(tactic| first
  | with_reducible refine g_seq ?_
  | with_reducible refine g_asg ?_
  | with_reducible refine g_ret ?_
  | with_reducible refine g_drop ?_
  | with_reducible refine g_ifS ?_
  | with_reducible refine g_next ?_
  | with_reducible refine g_break ?_
  | with_reducible refine g_for ?_
  | with_reducible refine g_op ?_
  | ((with_reducible refine g_var (v := ?v) ?h ?k); (case h => exact rfl))
  | with_reducible refine g_c ?_
  | with_reducible refine g_I0 ?_
  | with_reducible refine g_U ?_
  | with_reducible refine g_cons ?_
  | with_reducible refine g_nil ?_
  | with_reducible refine g_cb ?_
  | with_reducible refine g_call ?_
  | with_reducible refine g_test ?_
  | with_reducible refine g_bl ?_
  | with_reducible refine g_int ?_
  | with_reducible refine g_B ?_
  | ((with_reducible refine g_wipe ?e ?k); (case e => exact rfl))
  | with_reducible refine g_iteT ?_
  | with_reducible refine g_iteF ?_
  | with_reducible refine g_andK ?_
  | with_reducible refine g_orK ?_
  | with_reducible refine g_notK ?_
  | ((with_reducible refine w_tupK (B := ?b) (ds := ?ds) ?s ?h ?k); (case h => assumption); (case s => walk_at "ex"); intro a S)
  | ((with_reducible refine w_listK (B := ?b) (ds := ?ds) ?s ?h ?k); (case h => assumption); (case s => walk_at "ex"); intro a S)
  | ((with_reducible refine w_enumK (B := ?b) (ds := ?ds) ?s ?h ?k); (case h => assumption); (case s => walk_at "ex"); intro a S)
  | ((with_reducible refine w_enumTK (B := ?b) (ds := ?ds) ?s ?h ?k); (case h => assumption); (case s => walk_at "ex"); intro a S)
  | ((with_reducible refine g_listOf (M := ?m) (ds := ?ds) ?c ?d ?h ?k); (case c => assumption); (case d => walk_at "dom"); (case h => first | (refine Or.inl ?_; walk_at "is") | (refine Or.inr ?_; walk_at "is")); intro v H' hs hv)
  | ((with_reducible refine g_tupOf (M := ?m) (ds := ?ds) ?c ?d ?h ?k); (case c => assumption); (case d => walk_at "dom"); (case h => walk_at "is"); intro v H' hs hv)
  | ((with_reducible refine g_tupK (M := ?m) (ds := ?ds) ?c ?d ?h ?l ?k); (case c => assumption); (case d => walk_at "dom"); (case h => walk_at "isa"); (case l => (simp only [List.length_cons, List.length_nil]; omega)); intro v H' hs hv)
  | ((with_reducible refine g_tupT (M := ?m) (ds := ?ds) ?c ?h ?e ?k); (case c => assumption); (case h => walk_at "is"); (case e => rfl); intro xs hxs)
  | with_reducible refine g_and ?_
  | with_reducible refine g_or ?_
  | with_reducible refine g_not ?_
  | with_reducible refine g_yes ?_
  | with_reducible refine g_tru ?_
  | with_reducible refine g_fld ?_
  | with_reducible refine g_meth ?_
  | with_reducible refine g_make ?_
  | with_reducible refine g_tupE ?_
  | with_reducible refine g_lstE ?_
  | with_reducible refine g_sl ?_
  | with_reducible refine g_part ?_
  | with_reducible refine g_nopart ?_
  | with_reducible refine g_bm ?_
  | with_reducible refine g_bm0 ?_
  | with_reducible refine g_if ?_
  | with_reducible refine g_un ?_
  | with_reducible refine g_isN ?_
  | with_reducible refine g_notN ?_
  | with_reducible refine g_andV ?_
  | with_reducible refine g_orV ?_
  | with_reducible refine g_notV ?_
  | with_reducible refine g_lc ?_
  | with_reducible refine g_dget ?_
  | with_reducible refine g_din ?_
  | with_reducible refine g_dnotin ?_
  | with_reducible refine g_fldS ?_
  | with_reducible refine g_dput ?_
  | with_reducible refine g_sub ?_
  | with_reducible refine g_consT ?_
  | with_reducible refine g_nilT ?_
  | ((with_reducible refine g_name (σ' := ?s) ?h ?k); (case h => (dsimp only [List.set]; exact rfl)))
  | with_reducible refine w_list ?_
  | with_reducible refine w_tup ?_
  | with_reducible refine w_rng1 ?_
  | with_reducible refine w_enumT ?_
  | with_reducible refine w_enum ?_
  | with_reducible refine w_zip ?_
  | with_reducible refine w_zipM ?_
  | with_reducible refine w_zipA ?_
  | with_reducible refine w_rng ?_
  | with_reducible refine g_int1 ?_
  | ((with_reducible refine g_ixT (M := ?m) (ds := ?ds) (d := ?d) ?c ?h ?e ?k); (case c => assumption); (case h => walk_at "is"); (case e => walk_at "at"); walk_at "sc")
  | ((with_reducible refine g_ixL (M := ?m) (ds := ?ds) (d := ?d) ?c ?h ?e ?k); (case c => assumption); (case h => walk_at "is"); (case e => walk_at "at"); walk_at "sc")
  | ((with_reducible refine g_lenL (M := ?m) (ds := ?ds) ?c ?h ?k); (case c => assumption); (case h => walk_at "is"))
  | ((with_reducible refine g_lenT (M := ?m) (ds := ?ds) ?c ?h ?k); (case c => assumption); (case h => walk_at "is")))
local macro_rules | `(tactic| walk_at "len") => `(tactic| ((try simp only [List.length_map, List.length_append, List.length_cons, List.length_nil, List.length_range, List.length_zip]); omega))
local macro_rules | `(tactic| walk_at "gg") => `(tactic| repeat walk_at "g")
def DcK (J : It) (g : TG) (tt : TT) (tk tv : TE) (vs : List Nat) (σ : L2.St) (H1 : Hp) (Q : VK) : Prop := ∀ D, H1 D = none → ∃ W : Nat → Nat → Hp → Prop, (∃ m, W 0 m (upd H1 D (.dK []))) ∧ ∀ i m H, W i m H →
  (J.stop i H ∧ Q (.ref D) H) ∨ (J.go i H ∧ ∃ Nx : Hp → Prop, (∀ H', Nx H' → ∃ m', m' < m ∧ W (i + 1) m' H') ∧ ∀ x H', J.yld i H x H' → g x (wipe σ vs) H' fun σ2 H2 => wipe σ2 vs = wipe σ vs ∧ tt σ2 H2 fun b H3 =>
    if b = true then tk σ2 H3 fun y H4 => tv σ2 H4 fun z H5 => ∃ kvs k, y = kV k ∧ H5 D = some (.dK kvs) ∧ kvs.length < sizeLine ∧ Nx (upd H5 D (.dK (putK kvs k z))) else Nx H3)
theorem g_dc {wi : TI} {g : TG} {tt : TT} {tk tv : TE} {vs : List Nat} {σ : L2.St} {H : Hp} {Q : VK} (k : wi σ H fun J H1 => DcK J g tt tk tv vs σ H1 Q) : tDc wi g tt tk tv vs σ H Q := k
def putAll {α : Type} (kf : α → Str) (vf : α → V) (l : List α) : List (Key × V) := l.foldl (fun acc a => putK acc (Sum.inr (kf a)) (vf a)) []
theorem putAll_snoc {α : Type} (kf : α → Str) (vf : α → V) (l : List α) (a : α) : putAll kf vf (l ++ [a]) = putK (putAll kf vf l) (Sum.inr (kf a)) (vf a) := by
  unfold putAll
  rw [List.foldl_append]
  rfl
theorem putK_len {κ : Type} [DecidableEq κ] (kvs : List (κ × V)) (k : κ) (v : V) : (putK kvs k v).length ≤ kvs.length + 1 := by
  unfold putK
  split <;> simp
theorem putAll_len {α : Type} (kf : α → Str) (vf : α → V) (l : List α) : (putAll kf vf l).length ≤ l.length := by
  have key : ∀ (l : List α) (acc : List (Key × V)), (l.foldl (fun acc a => putK acc (Sum.inr (kf a)) (vf a)) acc).length ≤ acc.length + l.length := by
    intro l
    induction l with
    | nil => intro acc; exact Nat.le_refl _
    | cons a l ih =>
      intro acc
      have h1 := ih (putK acc (Sum.inr (kf a)) (vf a))
      have h2 := putK_len acc (Sum.inr (kf a)) (vf a)
      simp only [List.foldl_cons, List.length_cons]
      omega
  have := key l []
  simpa [putAll] using this
theorem dc_map {J : It} {B : Hp} {g : TG} {σ : L2.St} {H : Hp} {tt : TT} {tk tv : TE} {vs : List Nat} {Q : VK} {M : List Addr} {α : Type} {l : List α} {enc : α → PyData} (S : Src J B (l.map enc)) (kf : α → Str) (vf : α → V) (cu : Cur M) (dm : Dom M H) (hB : Same B (hol M H)) (hz : l.length < 100000)
    (turn : ∀ (i : Nat) a x L H' (Y : V → V → Hp → Prop) (No : Hp → Prop), l[i]? = some a → Cur (L :: M) → Dom (L :: M) H' → Same (hol M H) (hol (L :: M) H') → Same H (hol [L] H') → Is (hol (L :: M) H') (enc a) x →
      (∀ H2, Same H' H2 → Y (.str (kf a)) (vf a) H2) →
      g x (wipe σ vs) H' fun σ2 H2 => wipe σ2 vs = wipe σ vs ∧ tt σ2 H2 fun b H3 => if b = true then tk σ2 H3 fun y H4 => tv σ2 H4 fun z H5 => Y y z H5 else No H3)
    (k : ∀ p H', H p = none → Same H H' → H' p = some (.dK (putAll kf vf l)) → Q (.ref p) H') : DcK J g tt tk tv vs σ H Q := by
  intro L hL
  have hLM : L ∉ M := dm.not hL
  refine ⟨fun i m H1 => m = l.length - i ∧ i ≤ l.length ∧ H1 L = some (.dK (putAll kf vf (l.take i))) ∧ Same H (hol [L] H1), ⟨_, rfl, Nat.zero_le _, by rw [List.take_zero]; exact upd_same, hol_mut (M := []) hL⟩, ?_⟩
  rintro i m H1 ⟨rfl, hi, h1, s1⟩
  have sB : Same B H1 := (hB.trans (same1 s1)).trans hol_le
  by_cases hlt : i < l.length
  · have hlt' : i < (l.map enc).length := by rw [List.length_map]; exact hlt
    refine .inr ⟨S.goes i H1 hlt' sB, fun H2 => H2 L = some (.dK (putAll kf vf (l.take (i + 1)))) ∧ Same H (hol [L] H2), fun H2 ⟨a1, a2⟩ => ⟨_, by omega, rfl, hlt, a1, a2⟩, fun x H' y => ?_⟩
    obtain ⟨s2, y2⟩ := S.yields i H1 x H' hlt' sB y
    have ha : l[i]? = some l[i] := List.getElem?_eq_getElem hlt
    have dm1 : Dom (L :: M) H1 := .cons h1 (dm.mono (s1.trans hol_le))
    refine turn i l[i] x L H' _ _ ha (Sg.cur _) (dm1.mono s2) ((same1 s1).trans (same_hol s2)) (s1.trans (same_hol (M := [L]) s2)) (y2 _ (L :: M) (by rw [List.getElem?_map, ha]; rfl) dm1 (hB.trans (same1 s1))) fun H2 s3 => ?_
    refine ⟨_, Sum.inr (kf l[i]), rfl, s3 _ _ (s2 _ _ h1), ?_, ?_, ?_⟩
    · have := putAll_len kf vf (l.take i)
      rw [List.length_take] at this
      exact Nat.lt_of_lt_of_le (show _ < 100000 by omega) (by decide)
    · rw [upd_same]
      have e : l.take (i + 1) = l.take i ++ [l[i]] := by rw [List.take_add_one, ha]; rfl
      rw [e, putAll_snoc]
    · exact ((s1.trans (same_hol (M := [L]) s2)).trans (same_hol (M := [L]) s3)).trans (hol_upd (M := [L]) (by simp))
  · have e : i = l.length := by omega
    subst e
    rw [List.take_of_length_le (Nat.le_refl _)] at h1
    refine .inl ⟨?_, k L H1 hL (s1.trans hol_le) h1⟩
    have := S.stops H1 sB
    rw [List.length_map] at this
    exact this
def drv (c : Circ) : List (Key × V) := putAll (fun p : Nat × Gate => p.2.name) (fun p => .int ((p.1 : Nat) : Int)) ((List.range c.gates.length).zip c.gates)
def spDrivers : Sp := fun vs H Q _ => ∃ (M : List Addr) (c : Circ), Dom M H ∧ c.gates.length < 1000 ∧ IsA (hol M H) [encC c] vs ∧ ∀ p H', H p = none → Same H H' → H' p = some (.dK (drv c)) → Q (.ref p) H'
theorem r_drivers {K : PySem.W.Frag} {vs : List V} {H : Hp} {Q : VK} {E : XK} {n b c : L2.St → Hp → Prop} (h : spDrivers vs H Q E) : rd_drivers K ⟨n, Q, b, c⟩ (start N_drivers vs) H := by
  obtain ⟨M, ci, dm, ok, hv, k⟩ := h
  obtain ⟨v, r, rfl, is1, hr⟩ := hv.cons_inv
  obtain rfl := hr.nil_inv
  have cu := Sg.cur M
  show rd_drivers K _ [some v, none, none] H
  unfold rd_drivers
  refine g_ret ?_
  refine g_dc ?_
  walk_at "gg"
  refine dc_map (src_enum_map ‹Src _ _ _›) (fun p : Nat × Gate => p.2.name) (fun p => .int ((p.1 : Nat) : Int)) cu (by walk_at "dom") (by walk_at "ex") (by walk_at "len") (fun i a x L H' Y No hd cu dm sM s0 is1 kY => ?_) (fun p H' hp hs he => ?_)
  · show gTup K 2 _ x [some v, none, none] H' _
    walk_at "g"
    rename_i xs hxs
    obtain ⟨v1, r, rfl, i1, hr⟩ := hxs.cons_inv
    obtain ⟨v2, r, rfl, i2, hr⟩ := hr.cons_inv
    obtain rfl := hr.nil_inv
    obtain rfl := i1.int_inv
    walk_at "gg"
    exact kY _ (by walk_at "ex")
  · exact k p H' hp hs he
theorem ok_drivers {P : Program} {w : World} {K : PySem.W.Frag} {mg : Str → Option Value} {base : Heap} {f : Addr} {fd : FuncData} (F : Fun K "drivers" "drivers" s_drivers f fd) (T : Bl mg) : FnOk P w K mg base CX0 1 f fd ["circuit"] spDrivers :=
  F.ok sc_drivers (fun vs H Q E h => by obtain ⟨M, c, _, _, h, _⟩ := h; rw [h.len]; rfl) fun cdv A outer s H vs Q E hr h => ⟨_, dv_drivers T hr, r_drivers h⟩
theorem drv_get (c : Circ) (hn : (c.gates.map (·.name)).Nodup) (s : Str) : valV (drv c) (Sum.inr s) = (ixOf s c.gates).map fun i => V.int ((i : Nat) : Int) := by
  have key : ∀ (gs : List Gate) (k : Nat) (acc : List (Key × V)), (gs.map (·.name)).Nodup → (∀ g ∈ gs, valV acc (Sum.inr g.name) = none) →
      valV (((List.range' k gs.length).zip gs).foldl (fun acc (p : Nat × Gate) => putK acc (Sum.inr p.2.name) (.int ((p.1 : Nat) : Int))) acc) (Sum.inr s) = (match ixOf s gs with | some i => some (V.int (((k + i : Nat)) : Int)) | none => valV acc (Sum.inr s)) := by
    intro gs
    induction gs with
    | nil => intro k acc _ _; rfl
    | cons g gs ih =>
      intro k acc hn h
      obtain ⟨h1, h2⟩ := List.nodup_cons.mp (show (g.name :: gs.map (·.name)).Nodup from hn)
      rw [List.length_cons, List.range'_succ, List.zip_cons_cons, List.foldl_cons]
      have hk : valV acc (Sum.inr g.name) = none := h g List.mem_cons_self
      have put : ∀ j : Key, valV (putK acc (Sum.inr g.name) (.int ((k : Nat) : Int))) j = if j = Sum.inr g.name then some (V.int ((k : Nat) : Int)) else valV acc j := fun j => by
        rw [putK_new _ hk]
        exact valV_snoc _ _ _ _ hk
      rw [ih (k + 1) _ h2 fun g' hg' => ?_]
      · rw [show ixOf s (g :: gs) = if g.name = s then some 0 else (ixOf s gs).map (· + 1) from rfl]
        by_cases e : g.name = s
        · rw [if_pos e]
          have : ixOf s gs = none := by
            cases q : ixOf s gs with
            | none => rfl
            | some i =>
              obtain ⟨g', h3, h4⟩ := ixOf_some q
              exact absurd (List.mem_map.mpr ⟨g', List.mem_of_getElem? h3, h4.trans e.symm⟩) h1
          rw [this]
          show valV (putK acc (Sum.inr g.name) (.int ((k : Nat) : Int))) (Sum.inr s) = some (V.int (((k + 0 : Nat)) : Int))
          rw [put, if_pos (by rw [e])]
          rfl
        · rw [if_neg e]
          cases q : ixOf s gs with
          | none =>
            show valV (putK acc (Sum.inr g.name) (.int ((k : Nat) : Int))) (Sum.inr s) = valV acc (Sum.inr s)
            rw [put, if_neg (fun z => e (Sum.inr.inj z).symm)]
          | some i =>
            show some (V.int (((k + 1 + i : Nat)) : Int)) = some (V.int (((k + (i + 1) : Nat)) : Int))
            rw [show k + 1 + i = k + (i + 1) by omega]
      · rw [put, if_neg (fun z => h1 (List.mem_map.mpr ⟨g', hg', Sum.inr.inj z⟩))]
        exact h g' (List.mem_cons_of_mem _ hg')
  have := key c.gates 0 [] hn fun _ _ => rfl
  unfold drv putAll
  rw [List.range_eq_range', this]
  cases ixOf s c.gates with
  | none => rfl
  | some i =>
    show some (V.int (((0 + i : Nat)) : Int)) = some (V.int ((i : Nat) : Int))
    rw [Nat.zero_add]

end Sg
namespace Sg
open PySem PySem.Spec PyProof.Rows L2
local macro_rules | `(tactic| walk_at "ex") => `(tactic| first
  | exact Same.refl _
  | exact hol_le
  | assumption
  | (refine Same.on ?r (same_hol (H := ?b) ?h); (case h => assumption); walk_at "ex")
  | (refine Same.on ?r (Upd.hol (l := ?l) (H := ?b) ?h ?m); (case h => assumption); (case m => simp); walk_at "ex")
  | (refine Same.on (B := ?b) ?r ?h; (case h => assumption); walk_at "ex")
  | (refine Same.on ?r (same1 (A := ?b) ?h); (case h => assumption); walk_at "ex")
  | (refine Same.on ?r (same2 (A := ?b) ?h); (case h => assumption); walk_at "ex")
  | (refine Same.on ?r (hol_le (M := ?m)); walk_at "ex"))
local macro_rules | `(tactic| walk_at "dom") => `(tactic| first
  | assumption
  | exact Dom.nil
  | (refine Dom.mono (H := ?b) ?h ?d; (case h => assumption); walk_at "dom")
  | (refine Dom.cons (o := ?o) ?h ?d; (case h => assumption); walk_at "dom")
  | (refine Dom.holm (A := ?b) (N := ?n) ?h ?d; (case h => assumption); walk_at "dom")
  | (refine Upd.dom (l := ?l) (H := ?b) (o := ?o) ?h ?e ?d; (case h => assumption); (case e => assumption); walk_at "dom"))
local macro_rules | `(tactic| walk_at "is") => `(tactic| first
  | assumption
  | exact Is.int _
  | exact Is.str _
  | exact Is.bl _
  | exact Is.non
  | (refine Is.mono (H := ?b) ?s ?h; (case h => assumption); walk_at "ex"))
local macro_rules | `(tactic| walk_at "isa") => `(tactic| first
  | exact IsA.nil
  | (refine IsA.cons ?a ?b; (case a => walk_at "is"); walk_at "isa")
  | (refine IsA.mono (H := ?b) ?s ?h; (case h => assumption); walk_at "ex"))
local macro_rules | `(tactic| walk_at "at") => `(tactic| first
  | exact at0
  | exact at1
  | exact at2
  | exact at3
  | exact at4
  | (refine atM ?h; assumption)
  | (refine atJ ?h; assumption))
local macro_rules | `(tactic| walk_at "sc") => `(tactic| (intro v hv; first
  | ((with_reducible have e := Is.int_inv hv); subst e; clear hv)
  | ((with_reducible have e := Is.str_inv hv); subst e; clear hv)
  | ((with_reducible have e := Is.bool_inv hv); subst e; clear hv)
  | ((with_reducible have e := Is.none_inv hv); subst e; clear hv)
  | skip))
local macro_rules | `(tactic| walk_at "g") => `(tactic| first
  | with_reducible refine g_seq ?_
  | with_reducible refine g_asg ?_
  | with_reducible refine g_ret ?_
  | with_reducible refine g_drop ?_
  | with_reducible refine g_ifS ?_
  | with_reducible refine g_next ?_
  | with_reducible refine g_break ?_
  | with_reducible refine g_for ?_
  | with_reducible refine g_op ?_
  | ((with_reducible refine g_var (v := ?v) ?h ?k); (case h => exact rfl))
  | with_reducible refine g_c ?_
  | with_reducible refine g_I0 ?_
  | with_reducible refine g_U ?_
  | with_reducible refine g_cons ?_
  | with_reducible refine g_nil ?_
  | with_reducible refine g_cb ?_
  | with_reducible refine g_call ?_
  | with_reducible refine g_test ?_
  | with_reducible refine g_bl ?_
  | with_reducible refine g_int ?_
  | with_reducible refine g_B ?_
  | ((with_reducible refine g_wipe ?e ?k); (case e => exact rfl))
  | with_reducible refine g_iteT ?_
  | with_reducible refine g_iteF ?_
  | with_reducible refine g_andK ?_
  | with_reducible refine g_orK ?_
  | with_reducible refine g_notK ?_
  | ((with_reducible refine w_tupK (B := ?b) (ds := ?ds) ?s ?h ?k); (case h => assumption); (case s => walk_at "ex"); intro a S)
  | ((with_reducible refine w_listK (B := ?b) (ds := ?ds) ?s ?h ?k); (case h => assumption); (case s => walk_at "ex"); intro a S)
  | ((with_reducible refine w_enumK (B := ?b) (ds := ?ds) ?s ?h ?k); (case h => assumption); (case s => walk_at "ex"); intro a S)
  | ((with_reducible refine w_enumTK (B := ?b) (ds := ?ds) ?s ?h ?k); (case h => assumption); (case s => walk_at "ex"); intro a S)
  | ((with_reducible refine g_listOf (M := ?m) (ds := ?ds) ?c ?d ?h ?k); (case c => assumption); (case d => walk_at "dom"); (case h => first | (refine Or.inl ?_; walk_at "is") | (refine Or.inr ?_; walk_at "is")); intro v H' hs hv)
  | ((with_reducible refine g_tupOf (M := ?m) (ds := ?ds) ?c ?d ?h ?k); (case c => assumption); (case d => walk_at "dom"); (case h => walk_at "is"); intro v H' hs hv)
  | ((with_reducible refine g_tupK (M := ?m) (ds := ?ds) ?c ?d ?h ?l ?k); (case c => assumption); (case d => walk_at "dom"); (case h => walk_at "isa"); (case l => (simp only [List.length_cons, List.length_nil]; omega)); intro v H' hs hv)
  | ((with_reducible refine g_tupT (M := ?m) (ds := ?ds) ?c ?h ?e ?k); (case c => assumption); (case h => walk_at "is"); (case e => rfl); intro xs hxs)
  | with_reducible refine g_and ?_
  | with_reducible refine g_or ?_
  | with_reducible refine g_not ?_
  | with_reducible refine g_yes ?_
  | with_reducible refine g_tru ?_
  | with_reducible refine g_fld ?_
  | with_reducible refine g_meth ?_
  | with_reducible refine g_make ?_
  | with_reducible refine g_tupE ?_
  | with_reducible refine g_lstE ?_
  | with_reducible refine g_sl ?_
  | with_reducible refine g_part ?_
  | with_reducible refine g_nopart ?_
  | with_reducible refine g_bm ?_
  | with_reducible refine g_bm0 ?_
  | with_reducible refine g_if ?_
  | with_reducible refine g_un ?_
  | with_reducible refine g_isN ?_
  | with_reducible refine g_notN ?_
  | with_reducible refine g_andV ?_
  | with_reducible refine g_orV ?_
  | with_reducible refine g_notV ?_
  | with_reducible refine g_lc ?_
  | with_reducible refine g_dget ?_
  | with_reducible refine g_din ?_
  | with_reducible refine g_dnotin ?_
  | with_reducible refine g_fldS ?_
  | with_reducible refine g_dput ?_
  | with_reducible refine g_sub ?_
  | with_reducible refine g_consT ?_
  | with_reducible refine g_nilT ?_
  | ((with_reducible refine g_name (σ' := ?s) ?h ?k); (case h => (dsimp only [List.set]; exact rfl)))
  | with_reducible refine w_list ?_
  | with_reducible refine w_tup ?_
  | with_reducible refine w_rng1 ?_
  | with_reducible refine w_enumT ?_
  | with_reducible refine w_enum ?_
  | with_reducible refine w_zip ?_
  | with_reducible refine w_zipM ?_
  | with_reducible refine w_zipA ?_
  | with_reducible refine w_rng ?_
  | with_reducible refine g_int1 ?_
  | ((with_reducible refine g_ixT (M := ?m) (ds := ?ds) (d := ?d) ?c ?h ?e ?k); (case c => assumption); (case h => walk_at "is"); (case e => walk_at "at"); walk_at "sc")
  | ((with_reducible refine g_ixL (M := ?m) (ds := ?ds) (d := ?d) ?c ?h ?e ?k); (case c => assumption); (case h => walk_at "is"); (case e => walk_at "at"); walk_at "sc")
  | ((with_reducible refine g_lenL (M := ?m) (ds := ?ds) ?c ?h ?k); (case c => assumption); (case h => walk_at "is"))
  | ((with_reducible refine g_lenT (M := ?m) (ds := ?ds) ?c ?h ?k); (case c => assumption); (case h => walk_at "is")))
local macro_rules | `(tactic| walk_at "len") => `(tactic| ((try simp only [List.length_map, List.length_append, List.length_cons, List.length_nil, List.length_range, List.length_zip]); omega))
local macro_rules | `(tactic| walk_at "gg") => `(tactic| repeat walk_at "g")
def WhK (W : Nat → L2.St → Hp → Prop) (m : Nat) (ts : TS) (n : L2.St → Hp → Prop) (rt : VK) (z : Bool) (σ : L2.St) (H1 : Hp) : Prop :=
  if z = true then ∃ N : L2.St → Hp → Prop, (∀ σ' H', N σ' H' → ∃ m', m' < m ∧ W m' σ' H') ∧ ts ⟨N, rt, n, N⟩ σ H1 else n σ H1
section
variable {tt : TT} {ts : TS} {n : L2.St → Hp → Prop} {rt : VK} {b c : L2.St → Hp → Prop} {σ : L2.St} {H : Hp}
theorem g_while (W : Nat → L2.St → Hp → Prop) (m0 : Nat) (w0 : W m0 σ H) (step : ∀ m σ H, W m σ H → tt σ H fun z H1 => WhK W m ts n rt z σ H1) : tWhile tt ts ⟨n, rt, b, c⟩ σ H := ⟨W, ⟨m0, w0⟩, step⟩
theorem g_whT {W : Nat → L2.St → Hp → Prop} {m : Nat} (k : ts ⟨fun σ' H' => ∃ m', m' < m ∧ W m' σ' H', rt, n, fun σ' H' => ∃ m', m' < m ∧ W m' σ' H'⟩ σ H) : WhK W m ts n rt true σ H := ⟨_, fun _ _ h => h, k⟩
theorem g_whF {W : Nat → L2.St → Hp → Prop} {m : Nat} (k : n σ H) : WhK W m ts n rt false σ H := k
end
theorem placed_get (ord : List Nat) (k : Nat) : (valV (ord.map fun i => ((Sum.inl ((i : Nat) : Int) : Key), V.bl true)) (Sum.inl ((k : Nat) : Int))).isSome = decide (k ∈ ord) := by
  induction ord with
  | nil => rfl
  | cons i ord ih =>
    rw [List.map_cons]
    by_cases e : i = k
    · subst e
      rw [valV_pos rfl]
      simp
    · rw [valV_neg (fun q => e (by have := Sum.inl.inj q; omega)), ih]
      have : ¬ k = i := fun q => e q.symm
      simp [this]
@[reducible] def encW (c : Circ) (g : Gate) : PyData := .list ((waits c g).map fun j => PyData.int ((j : Nat) : Int))
@[reducible] def encO (ord : List Nat) : PyData := .list (ord.map fun i => PyData.int ((i : Nat) : Int))
@[reducible] def listO (ord : List Nat) : HO := .lst (ord.map fun i => V.int ((i : Nat) : Int))
@[reducible] def dictO (ord : List Nat) : HO := .dK (ord.map fun i => ((Sum.inl ((i : Nat) : Int) : Key), V.bl true))
def spGateOrder : Sp := SpF (fun c : Circ => [encC c]) Sound fun c d => ∃ ord, Ord c ord ∧ ord.length = c.gates.length ∧ d = encO ord
theorem IsA.of_nats {H : Hp} : ∀ ord : List Nat, IsA H (ord.map fun i => PyData.int ((i : Nat) : Int)) (ord.map fun i => V.int ((i : Nat) : Int))
  | [] => .nil
  | i :: r => .cons (.int _) (IsA.of_nats r)
theorem r_gate_order {K : PySem.W.Frag} {vs : List V} {H : Hp} {Q : VK} {E : XK} {n b c : L2.St → Hp → Prop} (h : spGateOrder vs H Q E) : rd_gate_order K spDrivers ⟨n, Q, b, c⟩ (start N_gate_order vs) H := by
  obtain ⟨M, ci, dm, ok, hv, k⟩ := h
  obtain ⟨v, r, rfl, is1, hr⟩ := hv.cons_inv
  obtain rfl := hr.nil_inv
  have few2 := ok.few2
  have cu := Sg.cur M
  show rd_gate_order K _ _ [some v, none, none, none, none, none, none, none, none, none, none] H
  unfold rd_gate_order
  walk_at "gg"
  refine ⟨M, ci, dm, ok.few2, by walk_at "isa", fun pD H1 hpD s1 hD => ?_⟩
  walk_at "gg"
  refine lc_map ‹Src _ _ _› (fun g : Gate => some (encW ci g)) cu (by walk_at "dom") (by walk_at "ex") (by omega) (fun i a x L H' Y No hd cu dm sM s0 is1 kY kN => ?_) (fun vW H2 s2 isW => ?_)
  · show gName 6 x [some v, some (.ref pD), none, none, none, none, none, none, none, none, none] H' _
    walk_at "gg"
    have nl := (ok.pins a (List.mem_of_getElem? hd)).2
    refine lc_map ‹Src _ _ (a.nets.map PyData.str)› (fun s => (ixOf s ci.gates).map fun j => PyData.int ((j : Nat) : Int)) cu (by walk_at "dom") (by walk_at "ex") (by omega) (fun i' s x' L' H'' Y' No' hd' cu dm' sM' s0' is1' kY' kN' => ?_) (fun v2 H3 s3 is3 => ?_)
    · show gName 9 x' [some v, some (.ref pD), none, none, none, none, some x, none, none, none, none] H'' _
      obtain rfl := is1'.str_inv
      have hD' : H'' pD = some (.dK (drv ci)) := (by walk_at "ex" : Same H1 H'') _ _ hD
      have nd : (ci.gates.map (·.name)).Nodup := by
        have := ok.nd
        unfold nets at this
        exact (List.nodup_append.mp this).2.1
      have hg := drv_get ci nd s
      walk_at "gg"
      refine g_dinK (k := .inr s) (.inl hD') ?_
      rw [hg]
      cases e : ixOf s ci.gates with
      | none =>
        walk_at "gg"
        exact kN' _ (Same.refl _) (by rw [e]; rfl)
      | some j =>
        walk_at "gg"
        show (if true = true then _ else _)
        walk_at "gg"
        refine g_dgetK (k := .inr s) (.inl hD') (by rw [hg, e]; rfl) ?_
        exact kY' _ _ _ (Same.refl _) (Is.int _) (by rw [e]; rfl)
    · refine kY _ _ _ s3 ?_ rfl
      have e : (waits ci a).map (fun j => PyData.int ((j : Nat) : Int)) = a.nets.filterMap (fun s => (ixOf s ci.gates).map fun j => PyData.int ((j : Nat) : Int)) := by
        unfold waits
        rw [List.map_filterMap]
      unfold encW
      rw [e]
      exact is3
  rw [fm_some] at isW
  walk_at "gg"
  refine g_lstM cu (by decide) (fun Lo H3 hLo s3 hO sM3 s03 => ?_)
  walk_at "gg"
  refine g_dnewM (Sg.cur (Lo :: M)) (fun Lp H4 hLp s4 hP sM4 s04 => ?_)
  walk_at "gg"
  have nLo : Lp ≠ Lo := (ne_of_none hO hLp).symm
  have sBase : Same H2 (hol [Lp, Lo] H4) := s03.trans (same1 (M := [Lo]) s04)
  refine g_while (fun m σ H' => ∃ (ord : List Nat) (o5 o7 o8 : Option V), m = ci.gates.length - ord.length ∧ σ = [some v, some (.ref pD), some vW, some (.ref Lo), some (.ref Lp), o5, none, o7, o8, none, none] ∧
    Ord ci ord ∧ H' Lo = some (listO ord) ∧ H' Lp = some (dictO ord) ∧ Same H2 (hol [Lp, Lo] H')) ci.gates.length ⟨[], none, none, none, by simp, rfl, .nil ci, s4 _ _ hO, hP, sBase⟩ ?_
  rintro m σ H5 ⟨ord, o5, o7, o8, rfl, rfl, hord, hO5, hP5, s5⟩
  have ole := hord.le
  have cu2 := Sg.cur (Lp :: Lo :: M)
  have dm5 : Dom (Lp :: Lo :: M) H5 := .cons hP5 (.cons hO5 (by walk_at "dom"))
  walk_at "gg"
  refine g_lenM hO5 ?_
  walk_at "gg"
  rw [List.length_map, List.length_map]
  by_cases hlt : ord.length < ci.gates.length
  · rw [decide_eq_true (show (ord.length : Int) < (ci.gates.length : Int) by omega)]
    refine g_whT ?_
    unfold b2_gate_order
    walk_at "gg"
    refine for_map (src_enum_map ‹Src _ _ _›) (fun i σ H' => ∃ (r : Int) (o7 o8 : Option V), σ = [some v, some (.ref pD), some vW, some (.ref Lo), some (.ref Lp), some (.int r), none, o7, o8, none, none] ∧
      H' Lo = some (listO ord) ∧ H' Lp = some (dictO ord) ∧ Same H2 (hol [Lp, Lo] H') ∧ ((r = -1 ∧ ∀ j, j < i → ¬ Ready ci ord j) ∨ ∃ j : Nat, r = (j : Int) ∧ Ready ci ord j))
      ⟨-1, o7, o8, rfl, hO5, hP5, s5, .inl ⟨rfl, fun j hj => absurd hj (Nat.not_lt_zero _)⟩⟩ (fun i σ H' p => ?_) (fun i a x σ H6 H7 ha p s67 isx => ?_) (fun σ H6 p => ?_)
    · obtain ⟨_, _, _, _, _, _, s6, _⟩ := p
      walk_at "ex"
    · obtain ⟨r, p7, p8, rfl, hO6, hP6, s6, hr⟩ := p
      obtain ⟨ea, eg⟩ := enum_get ha
      have dm6 : Dom (Lp :: Lo :: M) H6 := .cons hP6 (.cons hO6 (by walk_at "dom"))
      have isx := isx (Lp :: Lo :: M) dm6 (by walk_at "ex")
      have hO7 := s67 _ _ hO6
      have hP7 := s67 _ _ hP6
      have s7 : Same H2 (hol [Lp, Lo] H7) := s6.trans (same_hol (M := [Lp, Lo]) s67)
      have dm7 : Dom (Lp :: Lo :: M) H7 := dm6.mono s67
      walk_at "g"
      rename_i xs hxs
      obtain ⟨v1, rr, rfl, i1, hrr⟩ := hxs.cons_inv
      obtain ⟨v2, rr, rfl, i2, hrr⟩ := hrr.cons_inv
      obtain rfl := hrr.nil_inv
      obtain rfl := i1.int_inv
      walk_at "gg"
      unfold b1_gate_order
      walk_at "gg"
      refine g_ite (fun h => ?_) (fun h => ?_)
      · have h := of_decide_eq_true h
        have hr' : r = -1 ∧ ∀ j, j < i → ¬ Ready ci ord j := by
          rcases hr with q | ⟨j, e, _⟩
          · exact q
          · omega
        obtain ⟨rfl, hno⟩ := hr'
        walk_at "gg"
        refine g_dnotinK (k := .inl ((a.1 : Nat) : Int)) (.inl hP7) ?_
        rw [placed_get, ea]
        walk_at "gg"
        by_cases hin : i ∈ ord
        · rw [decide_eq_true hin]
          walk_at "gg"
          exact ⟨-1, _, _, rfl, hO7, hP7, s7, .inl ⟨rfl, fun j hj => by
            by_cases q : j = i
            · rw [q]; exact fun z => z.1 hin
            · exact hno j (by omega)⟩⟩
        · rw [decide_eq_false hin]
          show (if true = true then _ else _)
          walk_at "gg"
          refine lc_map ‹Src _ _ ((waits ci a.2).map fun j => PyData.int ((j : Nat) : Int))› (fun j => some (.bool (decide (j ∈ ord)))) cu2 (by walk_at "dom") (by walk_at "ex") ?_ (fun i' j x' L' H'' Y' No' hd' cu dm' sM' s0' is1' kY' kN' => ?_) (fun v3 H8 s8 is8 => ?_)
          · have := List.length_filterMap_le (fun n => ixOf n ci.gates) a.2.nets
            have h2 := (ok.pins a.2 (List.mem_of_getElem? eg)).2
            unfold waits
            omega
          · obtain rfl := is1'.int_inv
            show gName 10 (.int ((j : Nat) : Int)) [some v, some (.ref pD), some vW, some (.ref Lo), some (.ref Lp), some (.int (-1)), none, some (.int ((i : Nat) : Int)), some v2, none, none] H'' _
            walk_at "gg"
            refine g_dinK (k := .inl ((j : Nat) : Int)) (.inl ((s0'.trans hol_le) _ _ hP7)) ?_
            rw [placed_get]
            exact kY' _ _ _ (Same.refl _) (Is.bl _) rfl
          · rw [fm_some] at is8
            walk_at "gg"
            have e : (waits ci a.2).map (fun j => PyData.bool (decide (j ∈ ord))) = ((waits ci a.2).map fun j => decide (j ∈ ord)).map PyData.bool := by rw [List.map_map]; rfl
            rw [e] at is8
            refine g_all cu2 is8 ?_
            walk_at "gg"
            have s8' : Same H2 (hol [Lp, Lo] H8) := s7.trans (same_hol (M := [Lp, Lo]) s8)
            by_cases hall : ∀ j ∈ waits ci a.2, j ∈ ord
            · have : (((waits ci a.2).map fun j => decide (j ∈ ord)).all id) = true := by
                rw [List.all_eq_true]
                intro z hz
                obtain ⟨j, hj, rfl⟩ := List.mem_map.mp hz
                exact decide_eq_true (hall j hj)
              rw [this]
              walk_at "gg"
              exact ⟨_, _, _, rfl, s8 _ _ hO7, s8 _ _ hP7, s8', .inr ⟨i, rfl, hin, a.2, eg, hall⟩⟩
            · have : (((waits ci a.2).map fun j => decide (j ∈ ord)).all id) = false := by
                cases q : (((waits ci a.2).map fun j => decide (j ∈ ord)).all id) with
                | false => rfl
                | true =>
                  rw [List.all_eq_true] at q
                  exact absurd (fun j hj => of_decide_eq_true (q _ (List.mem_map.mpr ⟨j, hj, rfl⟩))) hall
              rw [this]
              walk_at "gg"
              refine ⟨_, _, _, rfl, s8 _ _ hO7, s8 _ _ hP7, s8', .inl ⟨rfl, fun j hj => ?_⟩⟩
              by_cases q : j = i
              · rw [q]
                rintro ⟨_, g, hg, hw⟩
                rw [eg] at hg
                cases hg
                exact hall hw
              · exact hno j (by omega)
      · have h := of_decide_eq_false h
        walk_at "gg"
        have hr' : ∃ j : Nat, r = (j : Int) ∧ Ready ci ord j := by
          rcases hr with ⟨e, _⟩ | q
          · omega
          · exact q
        exact ⟨_, _, _, rfl, hO7, hP7, s7, .inr hr'⟩
    · obtain ⟨r, p7, p8, rfl, hO6, hP6, s6, hr⟩ := p
      have hr' : ∃ j : Nat, r = (j : Int) ∧ Ready ci ord j := by
        rcases hr with ⟨e, hno⟩ | q
        · obtain ⟨j, hj⟩ := hord.next ok hlt
          have hjl : j < ci.gates.length := by
            obtain ⟨_, g, hg, _⟩ := hj
            exact (List.getElem?_eq_some_iff.mp hg).1
          exact absurd hj (hno j (by rw [List.length_zip, List.length_range]; omega))
        · exact q
      obtain ⟨j, rfl, hj⟩ := hr'
      have cu2 := Sg.cur (Lp :: Lo :: M)
      walk_at "gg"
      rw [decide_eq_false (show ¬ ((j : Int) < 0) by omega)]
      walk_at "gg"
      refine g_putM (k := .inl ((j : Nat) : Int)) hP6 (by rw [List.length_map]; omega) (fun H7 u7 hP7 => ?_)
      have hO7 : H7 Lo = some (listO ord) := u7.at nLo.symm hO6
      walk_at "gg"
      refine g_ty hO7 ?_
      walk_at "gg"
      refine g_app hO7 (by rw [List.length_map]; omega) (fun H8 u8 hO8 => ?_)
      refine ⟨_, ?_, ord ++ [j], _, _, _, rfl, rfl, hord.snoc hj, ?_, ?_, ?_⟩
      · rw [List.length_append, List.length_singleton]
        omega
      · unfold listO
        rw [hO8, List.map_append]
        rfl
      · unfold dictO
        rw [u8.at nLo hP7, putK_new, List.map_append]
        · rfl
        · have := placed_get ord j
          rw [decide_eq_false hj.1] at this
          simpa using this
      · exact (s6.trans (Upd.hol u7 (by simp))).trans (Upd.hol u8 (by simp))
  · rw [decide_eq_false (show ¬ ((ord.length : Int) < (ci.gates.length : Int)) by omega)]
    refine g_whF ?_
    walk_at "gg"
    refine k _ _ _ ⟨ord, hord, by omega, rfl⟩ (by walk_at "ex") (.lst (hol_some.mpr ⟨?_, hO5⟩) (IsA.of_nats ord))
    exact (dm.mono (s1.trans s2)).not hLo
theorem ok_gate_order {P : Program} {w : World} {K : PySem.W.Frag} {mg : Str → Option Value} {base : Heap} {f : Addr} {fd : FuncData} (F : Fun K "gate_order" "gate_order" s_gate_order f fd) (T : Bl mg) (c1 : Cal P w K mg base 1 "drivers" spDrivers) : FnOk P w K mg base CX0 2 f fd ["circuit"] spGateOrder :=
  F.ok sc_gate_order (fun vs H Q E h => SpF.len (n := 1) (fun _ => rfl) h) fun cdv A outer s H vs Q E hr h => ⟨_, dv_gate_order T c1 hr, r_gate_order h⟩

end Sg
namespace Sg
open PySem PySem.Spec PyProof.Rows L2
section
variable {P : Program} {w : World} {K : PySem.W.Frag} {mg : Str → Option Value} {base : Heap}
abbrev s_check_delay : Stmt := top 16
abbrev N_check_delay : List Str := ["low", "high"]
theorem sc_check_delay : FnScope N_check_delay ["low", "high"] (defScope s_check_delay) := ⟨rfl, rfl, rfl, by decide +kernel, rfl, by decide +kernel, by decide +kernel⟩
def rd_check_delay (K : PySem.W.Frag) : TS :=
    (tIfS (tOr (tTest (tOp (rI0 fun i j => .bl (decide (i < j))) (tVar 0) (tC (.int 0)))) (tTest (tOp (rI0 fun i j => .bl (decide (j < i))) (tOp (rI0 fun i j => .int (i + j)) (tVar 0) (tC (.int 2))) (tVar 1)))) tNever tNext)
theorem dv_check_delay  (T : Bl mg)  {f : Addr} {cdv : Value} {A : Around} {outer : List Env} {s : Shared} {H : Hp} {E : XK} (hr : Room 0 (A.deeper (envOfC "check_delay" (defScope s_check_delay) s.heap.objs.size f cdv))) :
    PSs (cxOf CX0 P w K mg base N_check_delay "check_delay" (defScope s_check_delay) f cdv A outer s H E).nox (defBody s_check_delay) (rd_check_delay K) :=
  (pss_one (ps_if (PW.pt (pw_or (pt_cmpR op_lt (pv 0) pe_int (nomark _)) (pw_or1 (pt_cmpR op_gt (pe_op op_add (pv 0) pe_int) (pv 1) (nomark _))))) (pss_one ps_never) pss_nil))
abbrev s_with_ranges : Stmt := top 18
abbrev N_with_ranges : List Str := ["circuit", "ranges", "gates", "gate", "row"]
theorem sc_with_ranges : FnScope N_with_ranges ["circuit", "ranges"] (defScope s_with_ranges) := ⟨rfl, rfl, rfl, by decide +kernel, rfl, by decide +kernel, by decide +kernel⟩
def rd_with_ranges (K : PySem.W.Frag) : TS :=
    (tSeq (tAsg (tLc (iZipM K (tCons (tOp (rIxT K) (tVar 0) (tC (.int 1))) (tCons (tVar 1) tNil))) (gTup K 2 (gCons (gName 3) (gCons (gName 4) gNil))) tYes (tTup (tCons (tOp (rIxT K) (tVar 3) (tC (.int 0))) (tCons (tOp (rIxT K) (tVar 3) (tC (.int 1))) (tCons (tOp (rIxT K) (tVar 3) (tC (.int 2))) (tCons (tVar 4) tNil))))) [3, 4]) (gName 2))
    (tRet (tTup (tCons (tOp (rIxT K) (tVar 0) (tC (.int 0))) (tCons (tCB (rTupQ K) (tCons (tVar 2) tNil)) (tCons (tOp (rIxT K) (tVar 0) (tC (.int 2))) (tCons (tOp (rIxT K) (tVar 0) (tC (.int 3))) tNil)))))))
theorem dv_with_ranges  (T : Bl mg)  {f : Addr} {cdv : Value} {A : Around} {outer : List Env} {s : Shared} {H : Hp} {E : XK} (hr : Room 0 (A.deeper (envOfC "with_ranges" (defScope s_with_ranges) s.heap.objs.size f cdv))) :
    PSs (cxOf CX0 P w K mg base N_with_ranges "with_ranges" (defScope s_with_ranges) f cdv A outer s H E).nox (defBody s_with_ranges) (rd_with_ranges K) :=
  (pss_cons (ps_setLc (i := 2) (own := [("gate", 3), ("row", 4)]) rfl sc_with_ranges.nd rfl rfl (sw_true rfl rfl rfl (by decide +kernel)) (pi_zipM (by rfl) T.zip (pa_cons (pe_ix ix_tup (pv 0) pe_int (fun _ _ => rfl)) (pa_cons (pv 1) pa_nil))) (blkOk_by (own := [("gate", 3), ("row", 4)]) (N := N_with_ranges) (sc := (defScope s_with_ranges)) (by decide +kernel)) (fun _ _ _ _ _ => (pg_tup rfl (pgs_cons (pg_name (i := 3) sc_with_ranges.nd rfl (by first | exact Or.inl rfl | exact Or.inr rfl)) (pgs_cons (pg_name (i := 4) sc_with_ranges.nd rfl (by first | exact Or.inl rfl | exact Or.inr rfl)) pgs_nil)))) (fun _ _ _ _ _ => pts_nil) (fun _ _ _ _ _ => (pe_tup (pa_cons (pe_ix ix_tup (pv 3) pe_int (fun _ _ => rfl)) (pa_cons (pe_ix ix_tup (pv 3) pe_int (fun _ _ => rfl)) (pa_cons (pe_ix ix_tup (pv 3) pe_int (fun _ _ => rfl)) (pa_cons (pv 4) pa_nil)))))))
    (pss_one (ps_ret (pe_tup (pa_cons (pe_ix ix_tup (pv 0) pe_int (fun _ _ => rfl)) (pa_cons (pe_callTy cr_tuple (by rfl) T.tuple (by decide +kernel) (pa_cons (pv 2) pa_nil)) (pa_cons (pe_ix ix_tup (pv 0) pe_int (fun _ _ => rfl)) (pa_cons (pe_ix ix_tup (pv 0) pe_int (fun _ _ => rfl)) pa_nil))))))))
abbrev s_check_start : Stmt := top 20
abbrev N_check_start : List Str := ["early", "late"]
theorem sc_check_start : FnScope N_check_start ["early", "late"] (defScope s_check_start) := ⟨rfl, rfl, rfl, by decide +kernel, rfl, by decide +kernel, by decide +kernel⟩
def rd_check_start (K : PySem.W.Frag) : TS :=
    (tIfS (tTest (tOp (rI0 fun i j => .bl (decide (j < i))) (tVar 0) (tVar 1))) tNever tNext)
theorem dv_check_start  (T : Bl mg)  {f : Addr} {cdv : Value} {A : Around} {outer : List Env} {s : Shared} {H : Hp} {E : XK} (hr : Room 0 (A.deeper (envOfC "check_start" (defScope s_check_start) s.heap.objs.size f cdv))) :
    PSs (cxOf CX0 P w K mg base N_check_start "check_start" (defScope s_check_start) f cdv A outer s H E).nox (defBody s_check_start) (rd_check_start K) :=
  (pss_one (ps_if (pt_cmpR op_gt (pv 0) (pv 1) (nomark _)) (pss_one ps_never) pss_nil))
abbrev s_Arrivals_init : Stmt := inClass (top 21) 0
abbrev N_Arrivals_init : List Str := ["self", "circuit", "starts", "index", "early", "late", "net", "start"]
theorem sc_Arrivals_init : FnScope N_Arrivals_init ["self", "circuit", "starts"] (defScope s_Arrivals_init) := ⟨rfl, rfl, rfl, by decide +kernel, rfl, by decide +kernel, by decide +kernel⟩
def b1_Arrivals_init (K : PySem.W.Frag) (CArrivals : Addr) (sp_Arrivals__arrival : Sp) (sp_check_start : Sp) (sp_gate_order : Sp) (sp_sources : Sp) : TS :=
    (tDrop (tCall sp_check_start [] E0 (tCons (tVar 4) (tCons (tVar 5) tNil))))
def b2_Arrivals_init (K : PySem.W.Frag) (CArrivals : Addr) (sp_Arrivals__arrival : Sp) (sp_check_start : Sp) (sp_gate_order : Sp) (sp_sources : Sp) : TS :=
    (sDPut (tFld K (tVar 0) "_times") (tVar 6) (tVar 7))
def b3_Arrivals_init (K : PySem.W.Frag) (CArrivals : Addr) (sp_Arrivals__arrival : Sp) (sp_check_start : Sp) (sp_gate_order : Sp) (sp_sources : Sp) : TS :=
    (sDPut (tFld K (tVar 0) "_times") (tOp (rIxT K) (tOp (rIxT K) (tOp (rIxT K) (tVar 1) (tC (.int 1))) (tVar 3)) (tC (.int 0))) (tMeth CArrivals "_arrival" sp_Arrivals__arrival [] E0 (tVar 0) (tCons (tVar 3) tNil)))
def rd_Arrivals_init (K : PySem.W.Frag) (CArrivals : Addr) (sp_Arrivals__arrival : Sp) (sp_check_start : Sp) (sp_gate_order : Sp) (sp_sources : Sp) : TS :=
    (tSeq (tIfS (tTest (tOp rNe (tCB (rLenQ K) (tCons (tVar 2) tNil)) (tCB (rLenQ K) (tCons (tCall sp_sources [] E0 (tCons (tVar 1) tNil)) tNil)))) tNever tNext)
    (tSeq (tFor (iList K (tVar 2)) (gTup K 2 (gCons (gName 4) (gCons (gName 5) gNil))) (b1_Arrivals_init K CArrivals sp_Arrivals__arrival sp_check_start sp_gate_order sp_sources))
    (tSeq (sFld K (tVar 0) (tVar 1) "_circuit")
    (tSeq (sFld K (tVar 0) (tCB (rListQ K) (tCons (tVar 2) tNil)) "_starts")
    (tSeq (sFld K (tVar 0) (tCall sp_gate_order [] E0 (tCons (tVar 1) tNil)) "_order")
    (tSeq (sFld K (tVar 0) tDNewK "_times")
    (tSeq (tFor (iZip K (tCons (tCall sp_sources [] E0 (tCons (tVar 1) tNil)) (tCons (tVar 2) tNil))) (gTup K 2 (gCons (gName 6) (gCons (gName 7) gNil))) (b2_Arrivals_init K CArrivals sp_Arrivals__arrival sp_check_start sp_gate_order sp_sources))
    (tSeq (tFor (iList K (tFld K (tVar 0) "_order")) (gName 3) (b3_Arrivals_init K CArrivals sp_Arrivals__arrival sp_check_start sp_gate_order sp_sources))
    (sFld K (tVar 0) (tC (.int 0)) "_touched")))))))))
theorem dv_Arrivals_init {CArrivals : Addr} {sp_Arrivals__arrival : Sp} {sp_check_start : Sp} {sp_gate_order : Sp} {sp_sources : Sp} (T : Bl mg) (c_Arrivals__arrival : Met P w K mg base 1 CArrivals "_arrival" sp_Arrivals__arrival) (c_check_start : Cal P w K mg base 1 "check_start" sp_check_start) (c_gate_order : Cal P w K mg base 2 "gate_order" sp_gate_order) (c_sources : Cal P w K mg base 1 "sources" sp_sources) {f : Addr} {cdv : Value} {A : Around} {outer : List Env} {s : Shared} {H : Hp} {E : XK} (hr : Room 2 (A.deeper (envOfC "Arrivals.__init__" (defScope s_Arrivals_init) s.heap.objs.size f cdv))) :
    PSs (cxOf CX0 P w K mg base N_Arrivals_init "Arrivals.__init__" (defScope s_Arrivals_init) f cdv A outer s H E).nox (defBody s_Arrivals_init) (rd_Arrivals_init K CArrivals sp_Arrivals__arrival sp_check_start sp_gate_order sp_sources) :=
  (pss_cons (ps_if (pt_cmpR op_ne (pe_callB cr_len (by rfl) T.len (by decide +kernel) (pa_cons (pv 2) pa_nil)) (pe_callB cr_len (by rfl) T.len (by decide +kernel) (pa_cons (pe_cl c_sources hr (by decide) (by rfl) (pa_cons (pv 1) pa_nil)) pa_nil)) (nomark _)) (pss_one ps_never) pss_nil)
    (pss_cons (ps_for PassesOwn.never rfl (pi_list (pv 2)) (pg_tup rfl (pgs_cons (pg_name (i := 4) sc_Arrivals_init.nd rfl (by first | exact Or.inl rfl | exact Or.inr rfl)) (pgs_cons (pg_name (i := 5) sc_Arrivals_init.nd rfl (by first | exact Or.inl rfl | exact Or.inr rfl)) pgs_nil))) (pss_one (ps_expr (pe_cl c_check_start hr (by decide) (by rfl) (pa_cons (pv 4) (pa_cons (pv 5) pa_nil))))))
    (pss_cons (ps_fld (pv 0) (pv 1) rfl)
    (pss_cons (ps_fld (pv 0) (pe_callTy cr_list (by rfl) T.list (by decide +kernel) (pa_cons (pv 2) pa_nil)) rfl)
    (pss_cons (ps_fld (pv 0) (pe_cl c_gate_order hr (by decide) (by rfl) (pa_cons (pv 1) pa_nil)) rfl)
    (pss_cons (ps_fld (pv 0) pe_dnewK rfl)
    (pss_cons (ps_for PassesOwn.never rfl (pi_zip (by rfl) T.zip (pa_cons (pe_cl c_sources hr (by decide) (by rfl) (pa_cons (pv 1) pa_nil)) (pa_cons (pv 2) pa_nil))) (pg_tup rfl (pgs_cons (pg_name (i := 6) sc_Arrivals_init.nd rfl (by first | exact Or.inl rfl | exact Or.inr rfl)) (pgs_cons (pg_name (i := 7) sc_Arrivals_init.nd rfl (by first | exact Or.inl rfl | exact Or.inr rfl)) pgs_nil))) (pss_one (ps_dput (hu_of hr) (pe_fld (pv 0) rfl) (pv 6) (pv 7) rfl)))
    (pss_cons (ps_for PassesOwn.never rfl (pi_list (pe_fld (pv 0) rfl)) (pg_name (i := 3) sc_Arrivals_init.nd rfl (by first | exact Or.inl rfl | exact Or.inr rfl)) (pss_one (ps_dput (hu_of hr) (pe_fld (pv 0) rfl) (pe_ix ix_tup (pe_ix ix_tup (pe_ix ix_tup (pv 1) pe_int (fun _ _ => rfl)) (pv 3) (fun _ _ => rfl)) pe_int (fun _ _ => rfl)) (pe_mt c_Arrivals__arrival hr (by decide) (pv 0) (pa_cons (pv 3) pa_nil)) rfl)))
    (pss_one (ps_fld (pv 0) pe_int rfl))))))))))
abbrev s_Arrivals__arrival : Stmt := inClass (top 21) 1
abbrev N_Arrivals__arrival : List Str := ["self", "index", "early", "late", "_", "nets", "ranges", "net", "low", "high"]
theorem sc_Arrivals__arrival : FnScope N_Arrivals__arrival ["self", "index"] (defScope s_Arrivals__arrival) := ⟨rfl, rfl, rfl, by decide +kernel, rfl, by decide +kernel, by decide +kernel⟩
def b1_Arrivals__arrival (K : PySem.W.Frag) : TS :=
    (tIfS (tB (tNotN (tDGet (tFld K (tVar 0) "_times") (tVar 7)))) (tSeq (tDrop (tBM K "list" rAppend (tVar 2) (tCons (tOp (rI0 fun i j => .int (i + j)) (tOp (rIxT K) (tDGet (tFld K (tVar 0) "_times") (tVar 7)) (tC (.int 0))) (tVar 8)) tNil)))
    (tDrop (tBM K "list" rAppend (tVar 3) (tCons (tOp (rI0 fun i j => .int (i + j)) (tOp (rIxT K) (tDGet (tFld K (tVar 0) "_times") (tVar 7)) (tC (.int 1))) (tVar 9)) tNil)))) tNext)
def rd_Arrivals__arrival (K : PySem.W.Frag) : TS :=
    (tSeq (tAsg (tOp (rIxT K) (tOp (rIxT K) (tFld K (tVar 0) "_circuit") (tC (.int 1))) (tVar 1)) (gTup K 4 (gCons (gName 4) (gCons (gName 4) (gCons (gName 5) (gCons (gName 6) gNil))))))
    (tSeq (tAsg (tLst tNil) (gName 2))
    (tSeq (tAsg (tLst tNil) (gName 3))
    (tSeq (tFor (RZ.iZipA K (tCons (tVar 5) (tCons (tVar 6) tNil))) (gTup K 2 (gCons (gName 7) (gCons (gTup K 2 (gCons (gName 8) (gCons (gName 9) gNil))) gNil))) (b1_Arrivals__arrival K))
    (tRet (tIf (tTru K (tVar 2)) (tTup (tCons (tCB (rMin K) (tCons (tVar 2) tNil)) (tCons (tCB (rMax K) (tCons (tVar 3) tNil)) tNil))) (tC .non)))))))
theorem dv_Arrivals__arrival  (T : Bl mg)  {f : Addr} {cdv : Value} {A : Around} {outer : List Env} {s : Shared} {H : Hp} {E : XK} (hr : Room 0 (A.deeper (envOfC "Arrivals._arrival" (defScope s_Arrivals__arrival) s.heap.objs.size f cdv))) :
    PSs (cxOf CX0 P w K mg base N_Arrivals__arrival "Arrivals._arrival" (defScope s_Arrivals__arrival) f cdv A outer s H E).nox (defBody s_Arrivals__arrival) (rd_Arrivals__arrival K) :=
  (pss_cons (ps_asg (pe_ix ix_tup (pe_ix ix_tup (pe_fld (pv 0) rfl) pe_int (fun _ _ => rfl)) (pv 1) (fun _ _ => rfl)) (pg_tup rfl (pgs_cons (pg_name (i := 4) sc_Arrivals__arrival.nd rfl (by first | exact Or.inl rfl | exact Or.inr rfl)) (pgs_cons (pg_name (i := 4) sc_Arrivals__arrival.nd rfl (by first | exact Or.inl rfl | exact Or.inr rfl)) (pgs_cons (pg_name (i := 5) sc_Arrivals__arrival.nd rfl (by first | exact Or.inl rfl | exact Or.inr rfl)) (pgs_cons (pg_name (i := 6) sc_Arrivals__arrival.nd rfl (by first | exact Or.inl rfl | exact Or.inr rfl)) pgs_nil))))))
    (pss_cons (ps_set (i := 2) sc_Arrivals__arrival.nd rfl (by first | exact Or.inl rfl | exact Or.inr rfl) (pe_lst pa_nil))
    (pss_cons (ps_set (i := 3) sc_Arrivals__arrival.nd rfl (by first | exact Or.inl rfl | exact Or.inr rfl) (pe_lst pa_nil))
    (pss_cons (ps_for PassesOwn.never rfl (RZ.pi_zipA (by rfl) T.zip (pa_cons (pv 5) (pa_cons (pv 6) pa_nil))) (pg_tup rfl (pgs_cons (pg_name (i := 7) sc_Arrivals__arrival.nd rfl (by first | exact Or.inl rfl | exact Or.inr rfl)) (pgs_cons (pg_tup rfl (pgs_cons (pg_name (i := 8) sc_Arrivals__arrival.nd rfl (by first | exact Or.inl rfl | exact Or.inr rfl)) (pgs_cons (pg_name (i := 9) sc_Arrivals__arrival.nd rfl (by first | exact Or.inl rfl | exact Or.inr rfl)) pgs_nil))) pgs_nil))) (pss_one (ps_if (pt_cmp (pc_notN (pe_dget (hu_of hr) (pe_fld (pv 0) rfl) (pv 7) (fun _ _ => rfl)))) (pss_cons (ps_expr (pe_bm PySem.F.plainAttrs_list PySem.F.slot_list_append PySem.F.type_list_append mt_append (pv 2) (pa_cons (pe_op op_add (pe_ix ix_tup (pe_dget (hu_of hr) (pe_fld (pv 0) rfl) (pv 7) (fun _ _ => rfl)) pe_int (fun _ _ => rfl)) (pv 8)) pa_nil)))
    (pss_one (ps_expr (pe_bm PySem.F.plainAttrs_list PySem.F.slot_list_append PySem.F.type_list_append mt_append (pv 3) (pa_cons (pe_op op_add (pe_ix ix_tup (pe_dget (hu_of hr) (pe_fld (pv 0) rfl) (pv 7) (fun _ _ => rfl)) pe_int (fun _ _ => rfl)) (pv 9)) pa_nil))))) pss_nil)))
    (pss_one (ps_ret (pe_ifExp (pt_tru (pv 2)) (pe_tup (pa_cons (pe_callB (cr_min rfl) (by rfl) T.min (by decide +kernel) (pa_cons (pv 2) pa_nil)) (pa_cons (pe_callB (cr_max rfl) (by rfl) T.max (by decide +kernel) (pa_cons (pv 3) pa_nil)) pa_nil))) pe_non)))))))
abbrev s_Arrivals_late : Stmt := inClass (top 21) 4
abbrev N_Arrivals_late : List Str := ["self", "net", "pair"]
theorem sc_Arrivals_late : FnScope N_Arrivals_late ["self", "net"] (defScope s_Arrivals_late) := ⟨rfl, rfl, rfl, by decide +kernel, rfl, by decide +kernel, by decide +kernel⟩
def rd_Arrivals_late (K : PySem.W.Frag) (sp_check_net : Sp) : TS :=
    (tSeq (tDrop (tCall sp_check_net [] E0 (tCons (tFld K (tVar 0) "_circuit") (tCons (tVar 1) tNil))))
    (tSeq (tAsg (tDGet (tFld K (tVar 0) "_times") (tVar 1)) (gName 2))
    (tRet (tIf (tB (tIsN (tVar 2))) (tC .non) (tOp (rIxT K) (tVar 2) (tC (.int 1)))))))
theorem dv_Arrivals_late {sp_check_net : Sp} (T : Bl mg) (c_check_net : Cal P w K mg base 3 "check_net" sp_check_net) {f : Addr} {cdv : Value} {A : Around} {outer : List Env} {s : Shared} {H : Hp} {E : XK} (hr : Room 3 (A.deeper (envOfC "Arrivals.late" (defScope s_Arrivals_late) s.heap.objs.size f cdv))) :
    PSs (cxOf CX0 P w K mg base N_Arrivals_late "Arrivals.late" (defScope s_Arrivals_late) f cdv A outer s H E).nox (defBody s_Arrivals_late) (rd_Arrivals_late K sp_check_net) :=
  (pss_cons (ps_expr (pe_cl c_check_net hr (by decide) (by rfl) (pa_cons (pe_fld (pv 0) rfl) (pa_cons (pv 1) pa_nil))))
    (pss_cons (ps_set (i := 2) sc_Arrivals_late.nd rfl (by first | exact Or.inl rfl | exact Or.inr rfl) (pe_dget (hu_of hr) (pe_fld (pv 0) rfl) (pv 1) (fun _ _ => rfl)))
    (pss_one (ps_ret (pe_ifExp (pt_cmp (pc_isN (pv 2))) pe_non (pe_ix ix_tup (pv 2) pe_int (fun _ _ => rfl)))))))
end
end Sg
namespace Sg
open PySem PySem.Spec PyProof.Rows L2
section
variable {P : Program} {w : World} {K : PySem.W.Frag} {mg : Str → Option Value} {base : Heap}
abbrev s_check_sizes : Stmt := top 23
abbrev N_check_sizes : List Str := ["circuit", "sizes", "gate", "rows", "_", "ranges"]
theorem sc_check_sizes : FnScope N_check_sizes ["circuit", "sizes"] (defScope s_check_sizes) := ⟨rfl, rfl, rfl, by decide +kernel, rfl, by decide +kernel, by decide +kernel⟩
def b1_check_sizes (K : PySem.W.Frag) : TS :=
    (tIfS (tTest (tOp rNe (tCB (rLenQ K) (tCons (tVar 5) tNil)) (tCB (rLenQ K) (tCons (tOp (rIxT K) (tVar 2) (tC (.int 2))) tNil)))) tNever tNext)
def b2_check_sizes (K : PySem.W.Frag) : TS :=
    (tFor (iList K (tVar 3)) (gTup K 2 (gCons (gName 4) (gCons (gName 5) gNil))) (b1_check_sizes K))
def rd_check_sizes (K : PySem.W.Frag) : TS :=
    (tSeq (tIfS (tOr (tTest (tOp rNe (tCB (rLenQ K) (tCons (tVar 1) tNil)) (tCB (rLenQ K) (tCons (tOp (rIxT K) (tVar 0) (tC (.int 1))) tNil)))) (tTest (tOp (rInD K) (tLst tNil) (tVar 1)))) tNever tNext)
    (tFor (iZipM K (tCons (tOp (rIxT K) (tVar 0) (tC (.int 1))) (tCons (tVar 1) tNil))) (gTup K 2 (gCons (gName 2) (gCons (gName 3) gNil))) (b2_check_sizes K)))
theorem dv_check_sizes  (T : Bl mg)  {f : Addr} {cdv : Value} {A : Around} {outer : List Env} {s : Shared} {H : Hp} {E : XK} (hr : Room 0 (A.deeper (envOfC "check_sizes" (defScope s_check_sizes) s.heap.objs.size f cdv))) :
    PSs (cxOf CX0 P w K mg base N_check_sizes "check_sizes" (defScope s_check_sizes) f cdv A outer s H E).nox (defBody s_check_sizes) (rd_check_sizes K) :=
  (pss_cons (ps_if (PW.pt (pw_or (pt_cmpR op_ne (pe_callB cr_len (by rfl) T.len (by decide +kernel) (pa_cons (pv 1) pa_nil)) (pe_callB cr_len (by rfl) T.len (by decide +kernel) (pa_cons (pe_ix ix_tup (pv 0) pe_int (fun _ _ => rfl)) pa_nil)) (nomark _)) (pw_or1 (pt_cmpR (op_inD (u65 hr)) (pe_lst pa_nil) (pv 1) rfl)))) (pss_one ps_never) pss_nil)
    (pss_one (ps_for PassesOwn.never rfl (pi_zipM (by rfl) T.zip (pa_cons (pe_ix ix_tup (pv 0) pe_int (fun _ _ => rfl)) (pa_cons (pv 1) pa_nil))) (pg_tup rfl (pgs_cons (pg_name (i := 2) sc_check_sizes.nd rfl (by first | exact Or.inl rfl | exact Or.inr rfl)) (pgs_cons (pg_name (i := 3) sc_check_sizes.nd rfl (by first | exact Or.inl rfl | exact Or.inr rfl)) pgs_nil))) (pss_one (ps_for PassesOwn.never rfl (pi_list (pv 3)) (pg_tup rfl (pgs_cons (pg_name (i := 4) sc_check_sizes.nd rfl (by first | exact Or.inl rfl | exact Or.inr rfl)) (pgs_cons (pg_name (i := 5) sc_check_sizes.nd rfl (by first | exact Or.inl rfl | exact Or.inr rfl)) pgs_nil))) (pss_one (ps_if (pt_cmpR op_ne (pe_callB cr_len (by rfl) T.len (by decide +kernel) (pa_cons (pv 5) pa_nil)) (pe_callB cr_len (by rfl) T.len (by decide +kernel) (pa_cons (pe_ix ix_tup (pv 2) pe_int (fun _ _ => rfl)) pa_nil)) (nomark _)) (pss_one ps_never) pss_nil)))))))
abbrev s_check_values : Stmt := top 24
abbrev N_check_values : List Str := ["sizes", "rows", "cost", "_", "ranges", "low", "high"]
theorem sc_check_values : FnScope N_check_values ["sizes"] (defScope s_check_values) := ⟨rfl, rfl, rfl, by decide +kernel, rfl, by decide +kernel, by decide +kernel⟩
def b1_check_values (K : PySem.W.Frag) (sp_check_delay : Sp) : TS :=
    (tIfS (tTest (tOp (rI0 fun i j => .bl (decide (i < j))) (tVar 2) (tC (.int 0)))) tNever tNext)
def b2_check_values (K : PySem.W.Frag) (sp_check_delay : Sp) : TS :=
    (tFor (iList K (tVar 1)) (gTup K 2 (gCons (gName 2) (gCons (gName 3) gNil))) (b1_check_values K sp_check_delay))
def b3_check_values (K : PySem.W.Frag) (sp_check_delay : Sp) : TS :=
    (tDrop (tCall sp_check_delay [] E0 (tCons (tVar 5) (tCons (tVar 6) tNil))))
def b4_check_values (K : PySem.W.Frag) (sp_check_delay : Sp) : TS :=
    (tFor (iTup K (tVar 4)) (gTup K 2 (gCons (gName 5) (gCons (gName 6) gNil))) (b3_check_values K sp_check_delay))
def b5_check_values (K : PySem.W.Frag) (sp_check_delay : Sp) : TS :=
    (tFor (iList K (tVar 1)) (gTup K 2 (gCons (gName 3) (gCons (gName 4) gNil))) (b4_check_values K sp_check_delay))
def rd_check_values (K : PySem.W.Frag) (sp_check_delay : Sp) : TS :=
    (tSeq (tFor (iList K (tVar 0)) (gName 1) (b2_check_values K sp_check_delay))
    (tFor (iList K (tVar 0)) (gName 1) (b5_check_values K sp_check_delay)))
theorem dv_check_values {sp_check_delay : Sp} (T : Bl mg) (c_check_delay : Cal P w K mg base 1 "check_delay" sp_check_delay) {f : Addr} {cdv : Value} {A : Around} {outer : List Env} {s : Shared} {H : Hp} {E : XK} (hr : Room 1 (A.deeper (envOfC "check_values" (defScope s_check_values) s.heap.objs.size f cdv))) :
    PSs (cxOf CX0 P w K mg base N_check_values "check_values" (defScope s_check_values) f cdv A outer s H E).nox (defBody s_check_values) (rd_check_values K sp_check_delay) :=
  (pss_cons (ps_for PassesOwn.never rfl (pi_list (pv 0)) (pg_name (i := 1) sc_check_values.nd rfl (by first | exact Or.inl rfl | exact Or.inr rfl)) (pss_one (ps_for PassesOwn.never rfl (pi_list (pv 1)) (pg_tup rfl (pgs_cons (pg_name (i := 2) sc_check_values.nd rfl (by first | exact Or.inl rfl | exact Or.inr rfl)) (pgs_cons (pg_name (i := 3) sc_check_values.nd rfl (by first | exact Or.inl rfl | exact Or.inr rfl)) pgs_nil))) (pss_one (ps_if (pt_cmpR op_lt (pv 2) pe_int (nomark _)) (pss_one ps_never) pss_nil)))))
    (pss_one (ps_for PassesOwn.never rfl (pi_list (pv 0)) (pg_name (i := 1) sc_check_values.nd rfl (by first | exact Or.inl rfl | exact Or.inr rfl)) (pss_one (ps_for PassesOwn.never rfl (pi_list (pv 1)) (pg_tup rfl (pgs_cons (pg_name (i := 3) sc_check_values.nd rfl (by first | exact Or.inl rfl | exact Or.inr rfl)) (pgs_cons (pg_name (i := 4) sc_check_values.nd rfl (by first | exact Or.inl rfl | exact Or.inr rfl)) pgs_nil))) (pss_one (ps_for PassesOwn.never rfl (pi_tup (pv 4)) (pg_tup rfl (pgs_cons (pg_name (i := 5) sc_check_values.nd rfl (by first | exact Or.inl rfl | exact Or.inr rfl)) (pgs_cons (pg_name (i := 6) sc_check_values.nd rfl (by first | exact Or.inl rfl | exact Or.inr rfl)) pgs_nil))) (pss_one (ps_expr (pe_cl c_check_delay hr (by decide) (by rfl) (pa_cons (pv 5) (pa_cons (pv 6) pa_nil))))))))))))
abbrev s_chosen_ranges : Stmt := top 25
abbrev N_chosen_ranges : List Str := ["sizes", "choice", "rows", "k"]
theorem sc_chosen_ranges : FnScope N_chosen_ranges ["sizes", "choice"] (defScope s_chosen_ranges) := ⟨rfl, rfl, rfl, by decide +kernel, rfl, by decide +kernel, by decide +kernel⟩
def rd_chosen_ranges (K : PySem.W.Frag) : TS :=
    (tRet (tLc (iZip K (tCons (tVar 0) (tCons (tVar 1) tNil))) (gTup K 2 (gCons (gName 2) (gCons (gName 3) gNil))) tYes (tOp (rIxT K) (tOp (rIxL K) (tVar 2) (tVar 3)) (tC (.int 1))) [2, 3]))
theorem dv_chosen_ranges  (T : Bl mg)  {f : Addr} {cdv : Value} {A : Around} {outer : List Env} {s : Shared} {H : Hp} {E : XK} (hr : Room 0 (A.deeper (envOfC "chosen_ranges" (defScope s_chosen_ranges) s.heap.objs.size f cdv))) :
    PSs (cxOf CX0 P w K mg base N_chosen_ranges "chosen_ranges" (defScope s_chosen_ranges) f cdv A outer s H E).nox (defBody s_chosen_ranges) (rd_chosen_ranges K) :=
  (pss_one (ps_ret (pe_lc (own := [("rows", 2), ("k", 3)]) rfl sc_chosen_ranges.nd (pi_zip (by rfl) T.zip (pa_cons (pv 0) (pa_cons (pv 1) pa_nil))) (blkOk_by (own := [("rows", 2), ("k", 3)]) (N := N_chosen_ranges) (sc := (defScope s_chosen_ranges)) (by decide +kernel)) (fun _ _ _ _ _ => (pg_tup rfl (pgs_cons (pg_name (i := 2) sc_chosen_ranges.nd rfl (by first | exact Or.inl rfl | exact Or.inr rfl)) (pgs_cons (pg_name (i := 3) sc_chosen_ranges.nd rfl (by first | exact Or.inl rfl | exact Or.inr rfl)) pgs_nil)))) (fun _ _ _ _ _ => pts_nil) (fun _ _ _ _ _ => (pe_ix ix_tup (pe_ix ix_list (pv 2) (pv 3) (fun _ _ => rfl)) pe_int (fun _ _ => rfl))))))
abbrev s_total_cost : Stmt := top 26
abbrev N_total_cost : List Str := ["sizes", "choice", "rows", "k"]
theorem sc_total_cost : FnScope N_total_cost ["sizes", "choice"] (defScope s_total_cost) := ⟨rfl, rfl, rfl, by decide +kernel, rfl, by decide +kernel, by decide +kernel⟩
def rd_total_cost (K : PySem.W.Frag) : TS :=
    (tRet (tCB (rSum K) (tCons (tLc (iZip K (tCons (tVar 0) (tCons (tVar 1) tNil))) (gTup K 2 (gCons (gName 2) (gCons (gName 3) gNil))) tYes (tOp (rIxT K) (tOp (rIxL K) (tVar 2) (tVar 3)) (tC (.int 0))) [2, 3]) tNil)))
theorem dv_total_cost  (T : Bl mg)  {f : Addr} {cdv : Value} {A : Around} {outer : List Env} {s : Shared} {H : Hp} {E : XK} (hr : Room 0 (A.deeper (envOfC "total_cost" (defScope s_total_cost) s.heap.objs.size f cdv))) :
    PSs (cxOf CX0 P w K mg base N_total_cost "total_cost" (defScope s_total_cost) f cdv A outer s H E).nox (defBody s_total_cost) (rd_total_cost K) :=
  (pss_one (ps_ret (pe_callB (cr_sum rfl) (by rfl) T.sum (by decide +kernel) (pa_cons (pe_lc (own := [("rows", 2), ("k", 3)]) rfl sc_total_cost.nd (pi_zip (by rfl) T.zip (pa_cons (pv 0) (pa_cons (pv 1) pa_nil))) (blkOk_by (own := [("rows", 2), ("k", 3)]) (N := N_total_cost) (sc := (defScope s_total_cost)) (by decide +kernel)) (fun _ _ _ _ _ => (pg_tup rfl (pgs_cons (pg_name (i := 2) sc_total_cost.nd rfl (by first | exact Or.inl rfl | exact Or.inr rfl)) (pgs_cons (pg_name (i := 3) sc_total_cost.nd rfl (by first | exact Or.inl rfl | exact Or.inr rfl)) pgs_nil)))) (fun _ _ _ _ _ => pts_nil) (fun _ _ _ _ _ => (pe_ix ix_tup (pe_ix ix_list (pv 2) (pv 3) (fun _ _ => rfl)) pe_int (fun _ _ => rfl)))) pa_nil))))
abbrev s_Search_init : Stmt := inClass (top 27) 0
abbrev N_Search_init : List Str := ["self", "circuit", "starts", "limits", "sizes", "rows", "cost", "_"]
theorem sc_Search_init : FnScope N_Search_init ["self", "circuit", "starts", "limits", "sizes"] (defScope s_Search_init) := ⟨rfl, rfl, rfl, by decide +kernel, rfl, by decide +kernel, by decide +kernel⟩
def rd_Search_init (K : PySem.W.Frag) (CSearch : Addr) (sp_Search_quickest : Sp) : TS :=
    (tSeq (sFld K (tVar 0) (tVar 1) "circuit")
    (tSeq (sFld K (tVar 0) (tVar 2) "starts")
    (tSeq (sFld K (tVar 0) (tVar 3) "limits")
    (tSeq (sFld K (tVar 0) (tVar 4) "sizes")
    (tSeq (sFld K (tVar 0) (tC .non) "best")
    (tSeq (sFld K (tVar 0) (tLc (iList K (tVar 4)) (gName 5) tYes (tCB (rMin K) (tCons (tLc (iList K (tVar 5)) (gTup K 2 (gCons (gName 6) (gCons (gName 7) gNil))) tYes (tVar 6) [6, 7]) tNil)) [5]) "cheap")
    (sFld K (tVar 0) (tLc (iList K (tVar 4)) (gName 5) tYes (tMeth CSearch "quickest" sp_Search_quickest [] E0 (tVar 0) (tCons (tVar 5) tNil)) [5]) "quick")))))))
theorem dv_Search_init {CSearch : Addr} {sp_Search_quickest : Sp} (T : Bl mg) (c_Search_quickest : Met P w K mg base 1 CSearch "quickest" sp_Search_quickest) {f : Addr} {cdv : Value} {A : Around} {outer : List Env} {s : Shared} {H : Hp} {E : XK} (hr : Room 1 (A.deeper (envOfC "Search.__init__" (defScope s_Search_init) s.heap.objs.size f cdv))) :
    PSs (cxOf CX0 P w K mg base N_Search_init "Search.__init__" (defScope s_Search_init) f cdv A outer s H E).nox (defBody s_Search_init) (rd_Search_init K CSearch sp_Search_quickest) :=
  (pss_cons (ps_fld (pv 0) (pv 1) rfl)
    (pss_cons (ps_fld (pv 0) (pv 2) rfl)
    (pss_cons (ps_fld (pv 0) (pv 3) rfl)
    (pss_cons (ps_fld (pv 0) (pv 4) rfl)
    (pss_cons (ps_fld (pv 0) pe_non rfl)
    (pss_cons (ps_fld (pv 0) (pe_lc (own := [("rows", 5)]) rfl sc_Search_init.nd (pi_list (pv 4)) (blkOk_by (own := [("rows", 5)]) (N := N_Search_init) (sc := (defScope s_Search_init)) (by decide +kernel)) (fun _ _ _ _ _ => (pg_name (i := 5) sc_Search_init.nd rfl (by first | exact Or.inl rfl | exact Or.inr rfl))) (fun _ _ _ _ _ => pts_nil) (fun _ _ _ _ _ => (pe_callB (cr_min rfl) (by rfl) T.min (by decide +kernel) (pa_cons (pe_lc (own := [("cost", 6), ("_", 7)]) rfl sc_Search_init.nd (pi_list (pv 5)) (blkOk_by (own := [("cost", 6), ("_", 7)]) (N := N_Search_init) (sc := (relS (lcScope (stVal ((defBody s_Search_init).getD 5 (.Pass ⟨0, 0, 0, 0⟩)))) (defScope s_Search_init))) (by decide +kernel)) (fun _ _ _ _ _ => (pg_tup rfl (pgs_cons (pg_name (i := 6) sc_Search_init.nd rfl (by first | exact Or.inl rfl | exact Or.inr rfl)) (pgs_cons (pg_name (i := 7) sc_Search_init.nd rfl (by first | exact Or.inl rfl | exact Or.inr rfl)) pgs_nil)))) (fun _ _ _ _ _ => pts_nil) (fun _ _ _ _ _ => (pv 6))) pa_nil)))) rfl)
    (pss_one (ps_fld (pv 0) (pe_lc (own := [("rows", 5)]) rfl sc_Search_init.nd (pi_list (pv 4)) (blkOk_by (own := [("rows", 5)]) (N := N_Search_init) (sc := (defScope s_Search_init)) (by decide +kernel)) (fun _ _ _ _ _ => (pg_name (i := 5) sc_Search_init.nd rfl (by first | exact Or.inl rfl | exact Or.inr rfl))) (fun _ _ _ _ _ => pts_nil) (fun _ _ _ _ _ => (pe_mt c_Search_quickest hr (by decide) (pv 0) (pa_cons (pv 5) pa_nil)))) rfl))))))))
abbrev s_Search_quickest : Stmt := inClass (top 27) 1
abbrev N_Search_quickest : List Str := ["self", "rows", "pins", "pin", "_", "ranges"]
theorem sc_Search_quickest : FnScope N_Search_quickest ["self", "rows"] (defScope s_Search_quickest) := ⟨rfl, rfl, rfl, by decide +kernel, rfl, by decide +kernel, by decide +kernel⟩
def rd_Search_quickest (K : PySem.W.Frag) : TS :=
    (tSeq (tAsg (tCB rRngQ (tCons (tCB (rLenQ K) (tCons (tOp (rIxT K) (tOp (rIxL K) (tVar 1) (tC (.int 0))) (tC (.int 1))) tNil)) tNil)) (gName 2))
    (tRet (tCB (rTupQ K) (tCons (tLc (iRng (tVar 2)) (gName 3) tYes (tTup (tCons (tC (.int 0)) (tCons (tCB (rMin K) (tCons (tLc (iList K (tVar 1)) (gTup K 2 (gCons (gName 4) (gCons (gName 5) gNil))) tYes (tOp (rIxT K) (tOp (rIxT K) (tVar 5) (tVar 3)) (tC (.int 1))) [4, 5]) tNil)) tNil))) [3]) tNil))))
theorem dv_Search_quickest  (T : Bl mg)  {f : Addr} {cdv : Value} {A : Around} {outer : List Env} {s : Shared} {H : Hp} {E : XK} (hr : Room 0 (A.deeper (envOfC "Search.quickest" (defScope s_Search_quickest) s.heap.objs.size f cdv))) :
    PSs (cxOf CX0 P w K mg base N_Search_quickest "Search.quickest" (defScope s_Search_quickest) f cdv A outer s H E).nox (defBody s_Search_quickest) (rd_Search_quickest K) :=
  (pss_cons (ps_set (i := 2) sc_Search_quickest.nd rfl (by first | exact Or.inl rfl | exact Or.inr rfl) (pe_callTy cr_range1 (by rfl) T.range (by decide +kernel) (pa_cons (pe_callB cr_len (by rfl) T.len (by decide +kernel) (pa_cons (pe_ix ix_tup (pe_ix ix_list (pv 1) pe_int (fun _ _ => rfl)) pe_int (fun _ _ => rfl)) pa_nil)) pa_nil)))
    (pss_one (ps_ret (pe_callTy cr_tuple (by rfl) T.tuple (by decide +kernel) (pa_cons (pe_lc (own := [("pin", 3)]) rfl sc_Search_quickest.nd (pi_rng (pv 2)) (blkOk_by (own := [("pin", 3)]) (N := N_Search_quickest) (sc := (defScope s_Search_quickest)) (by decide +kernel)) (fun _ _ _ _ _ => (pg_name (i := 3) sc_Search_quickest.nd rfl (by first | exact Or.inl rfl | exact Or.inr rfl))) (fun _ _ _ _ _ => pts_nil) (fun _ _ _ _ _ => (pe_tup (pa_cons pe_int (pa_cons (pe_callB (cr_min rfl) (by rfl) T.min (by decide +kernel) (pa_cons (pe_lc (own := [("_", 4), ("ranges", 5)]) rfl sc_Search_quickest.nd (pi_list (pv 1)) (blkOk_by (own := [("_", 4), ("ranges", 5)]) (N := N_Search_quickest) (sc := (relS (lcScope (callArg (stVal ((defBody s_Search_quickest).getD 1 (.Pass ⟨0, 0, 0, 0⟩))) 0)) (defScope s_Search_quickest))) (by decide +kernel)) (fun _ _ _ _ _ => (pg_tup rfl (pgs_cons (pg_name (i := 4) sc_Search_quickest.nd rfl (by first | exact Or.inl rfl | exact Or.inr rfl)) (pgs_cons (pg_name (i := 5) sc_Search_quickest.nd rfl (by first | exact Or.inl rfl | exact Or.inr rfl)) pgs_nil)))) (fun _ _ _ _ _ => pts_nil) (fun _ _ _ _ _ => (pe_ix ix_tup (pe_ix ix_tup (pv 5) (pv 3) (fun _ _ => rfl)) pe_int (fun _ _ => rfl)))) pa_nil)) pa_nil))))) pa_nil)))))
abbrev s_Search_can_meet : Stmt := inClass (top 27) 2
abbrev N_Search_can_meet : List Str := ["self", "choice", "ranges", "arrivals", "net", "limit", "late"]
theorem sc_Search_can_meet : FnScope N_Search_can_meet ["self", "choice"] (defScope s_Search_can_meet) := ⟨rfl, rfl, rfl, by decide +kernel, rfl, by decide +kernel, by decide +kernel⟩
def b1_Search_can_meet (K : PySem.W.Frag) (CArrivals : Addr) (sp_Arrivals_init : Sp) (sp_Arrivals_late : Sp) (sp_chosen_ranges : Sp) (sp_with_ranges : Sp) : TS :=
    (tSeq (tAsg (tMeth CArrivals "late" sp_Arrivals_late [] E0 (tVar 3) (tCons (tVar 4) tNil)) (gName 6))
    (tIfS (tAnd (tB (tNotN (tVar 6))) (tTest (tOp (rI0 fun i j => .bl (decide (j < i))) (tVar 6) (tVar 5)))) (tRet (tC (.bl false))) tNext))
def rd_Search_can_meet (K : PySem.W.Frag) (CArrivals : Addr) (sp_Arrivals_init : Sp) (sp_Arrivals_late : Sp) (sp_chosen_ranges : Sp) (sp_with_ranges : Sp) : TS :=
    (tSeq (tAsg (tOp rCat (tCall sp_chosen_ranges [] E0 (tCons (tFld K (tVar 0) "sizes") (tCons (tVar 1) tNil))) (tSl (rSlL K) (tFld K (tVar 0) "quick") (tPart (tCB (rLenQ K) (tCons (tVar 1) tNil))) tNoPart)) (gName 2))
    (tSeq (tAsg (tMake CArrivals sp_Arrivals_init [] E0 (tCons (tCall sp_with_ranges [] E0 (tCons (tFld K (tVar 0) "circuit") (tCons (tVar 2) tNil))) (tCons (tFld K (tVar 0) "starts") tNil))) (gName 3))
    (tSeq (tLock (tFor (iItems (tFld K (tVar 0) "limits")) (gTup K 2 (gCons (gName 4) (gCons (gName 5) gNil))) (b1_Search_can_meet K CArrivals sp_Arrivals_init sp_Arrivals_late sp_chosen_ranges sp_with_ranges)))
    (tRet (tC (.bl true))))))
theorem dv_Search_can_meet {CArrivals : Addr} {sp_Arrivals_init : Sp} {sp_Arrivals_late : Sp} {sp_chosen_ranges : Sp} {sp_with_ranges : Sp} (T : Bl mg) (c_Arrivals_init : Mak P w K mg base 3 "Arrivals" CArrivals sp_Arrivals_init) (c_Arrivals_late : Met P w K mg base 4 CArrivals "late" sp_Arrivals_late) (c_chosen_ranges : Cal P w K mg base 1 "chosen_ranges" sp_chosen_ranges) (c_with_ranges : Cal P w K mg base 1 "with_ranges" sp_with_ranges) {f : Addr} {cdv : Value} {A : Around} {outer : List Env} {s : Shared} {H : Hp} {E : XK} (hr : Room 4 (A.deeper (envOfC "Search.can_meet" (defScope s_Search_can_meet) s.heap.objs.size f cdv))) :
    PSs (cxOf CX0 P w K mg base N_Search_can_meet "Search.can_meet" (defScope s_Search_can_meet) f cdv A outer s H E).nox (defBody s_Search_can_meet) (rd_Search_can_meet K CArrivals sp_Arrivals_init sp_Arrivals_late sp_chosen_ranges sp_with_ranges) :=
  (pss_cons (ps_set (i := 2) sc_Search_can_meet.nd rfl (by first | exact Or.inl rfl | exact Or.inr rfl) (pe_op op_cat (pe_cl c_chosen_ranges hr (by decide) (by rfl) (pa_cons (pe_fld (pv 0) rfl) (pa_cons (pv 1) pa_nil))) (pe_slice sl_list (pe_fld (pv 0) rfl) (po_some (pe_callB cr_len (by rfl) T.len (by decide +kernel) (pa_cons (pv 1) pa_nil))) po_none)))
    (pss_cons (ps_set (i := 3) sc_Search_can_meet.nd rfl (by first | exact Or.inl rfl | exact Or.inr rfl) (pe_mk c_Arrivals_init hr (by decide) (by rfl) (pa_cons (pe_cl c_with_ranges hr (by decide) (by rfl) (pa_cons (pe_fld (pv 0) rfl) (pa_cons (pv 2) pa_nil))) (pa_cons (pe_fld (pv 0) rfl) pa_nil))))
    (pss_cons (ps_lock (ps_for PassesOwn.never rfl (pi_items (pe_fld (pv 0) rfl)) (pg_tup rfl (pgs_cons (pg_name (i := 4) sc_Search_can_meet.nd rfl (by first | exact Or.inl rfl | exact Or.inr rfl)) (pgs_cons (pg_name (i := 5) sc_Search_can_meet.nd rfl (by first | exact Or.inl rfl | exact Or.inr rfl)) pgs_nil))) (pss_cons (ps_set (i := 6) sc_Search_can_meet.nd rfl (by first | exact Or.inl rfl | exact Or.inr rfl) (pe_mt c_Arrivals_late hr (by decide) (pv 3) (pa_cons (pv 4) pa_nil)))
    (pss_one (ps_if (PW.pt (pw_and (pt_cmp (pc_notN (pv 6))) (pw_and1 (pt_cmpR op_gt (pv 6) (pv 5) (nomark _))))) (pss_one (ps_ret pe_bl)) pss_nil)))))
    (pss_one (ps_ret pe_bl)))))
end
end Sg
namespace Sg
open PySem PySem.Spec PyProof.Rows L2
local macro_rules | `(tactic| walk_at "ex") => `(tactic| first
  | exact Same.refl _
  | exact hol_le
  | assumption
  | (refine Same.on ?r (same_hol (H := ?b) ?h); (case h => assumption); walk_at "ex")
  | (refine Same.on ?r (Upd.hol (l := ?l) (H := ?b) ?h ?m); (case h => assumption); (case m => simp); walk_at "ex")
  | (refine Same.on (B := ?b) ?r ?h; (case h => assumption); walk_at "ex")
  | (refine Same.on ?r (same1 (A := ?b) ?h); (case h => assumption); walk_at "ex")
  | (refine Same.on ?r (same2 (A := ?b) ?h); (case h => assumption); walk_at "ex")
  | (refine Same.on ?r (hol_le (M := ?m)); walk_at "ex"))
local macro_rules | `(tactic| walk_at "dom") => `(tactic| first
  | assumption
  | exact Dom.nil
  | (refine Dom.mono (H := ?b) ?h ?d; (case h => assumption); walk_at "dom")
  | (refine Dom.cons (o := ?o) ?h ?d; (case h => assumption); walk_at "dom")
  | (refine Dom.holm (A := ?b) (N := ?n) ?h ?d; (case h => assumption); walk_at "dom")
  | (refine Upd.dom (l := ?l) (H := ?b) (o := ?o) ?h ?e ?d; (case h => assumption); (case e => assumption); walk_at "dom"))
local macro_rules | `(tactic| walk_at "is") => `(tactic| first
  | assumption
  | exact Is.int _
  | exact Is.str _
  | exact Is.bl _
  | exact Is.non
  | (refine Is.mono (H := ?b) ?s ?h; (case h => assumption); walk_at "ex"))
local macro_rules | `(tactic| walk_at "isa") => `(tactic| first
  | exact IsA.nil
  | (refine IsA.cons (d := ?x) (ds := ?xs) ?a ?b; (case a => walk_at "is"); (case b => walk_at "isa"))
  | (refine IsA.mono (H := ?b) ?s ?h; (case h => assumption); walk_at "ex"))
local macro_rules | `(tactic| walk_at "at") => `(tactic| first
  | exact at0
  | exact at1
  | exact at2
  | exact at3
  | exact at4
  | (refine atM (a := ?a) ?h; (case h => assumption))
  | (refine atJ (a := ?a) ?h; (case h => assumption)))
local macro_rules | `(tactic| walk_at "sc") => `(tactic| (intro v hv; first
  | ((with_reducible have e := Is.int_inv hv); subst e; clear hv)
  | ((with_reducible have e := Is.str_inv hv); subst e; clear hv)
  | ((with_reducible have e := Is.bool_inv hv); subst e; clear hv)
  | ((with_reducible have e := Is.none_inv hv); subst e; clear hv)
  | skip))
local macro_rules | `(tactic| walk_at "g") => `(tactic| first
  | with_reducible refine g_seq ?_
  | with_reducible refine g_asg ?_
  | with_reducible refine g_ret ?_
  | with_reducible refine g_drop ?_
  | with_reducible refine g_ifS ?_
  | with_reducible refine g_next ?_
  | with_reducible refine g_break ?_
  | with_reducible refine g_for ?_
  | with_reducible refine g_op ?_
  | ((with_reducible refine g_var (v := ?v) ?h ?k); (case h => exact rfl))
  | with_reducible refine g_c ?_
  | with_reducible refine g_I0 ?_
  | with_reducible refine g_U ?_
  | with_reducible refine g_cons ?_
  | with_reducible refine g_nil ?_
  | with_reducible refine g_cb ?_
  | with_reducible refine g_call ?_
  | with_reducible refine g_test ?_
  | with_reducible refine g_bl ?_
  | with_reducible refine g_int ?_
  | with_reducible refine g_B ?_
  | ((with_reducible refine g_wipe ?e ?k); (case e => exact rfl))
  | with_reducible refine g_iteT ?_
  | with_reducible refine g_iteF ?_
  | with_reducible refine g_andK ?_
  | with_reducible refine g_orK ?_
  | with_reducible refine g_notK ?_
  | ((with_reducible refine w_tupK (B := ?b) (ds := ?ds) ?s ?h ?k); (case h => assumption); (case s => walk_at "ex"); intro a S)
  | ((with_reducible refine w_listK (B := ?b) (ds := ?ds) ?s ?h ?k); (case h => assumption); (case s => walk_at "ex"); intro a S)
  | ((with_reducible refine w_enumK (B := ?b) (ds := ?ds) ?s ?h ?k); (case h => assumption); (case s => walk_at "ex"); intro a S)
  | ((with_reducible refine w_enumTK (B := ?b) (ds := ?ds) ?s ?h ?k); (case h => assumption); (case s => walk_at "ex"); intro a S)
  | ((with_reducible refine w_zipK (B := ?b) (ds := ?ds) (es := ?es) ?s ?h ?h' ?k); (case h => assumption); (case h' => walk_at "is"); (case s => walk_at "ex"); intro a b S)
  | ((with_reducible refine w_zipMK (B := ?b) (ds := ?ds) (es := ?es) ?s ?h ?h' ?k); (case h => assumption); (case h' => walk_at "is"); (case s => walk_at "ex"); intro a b S)
  | ((with_reducible refine w_zipTK (B := ?b) (ds := ?ds) (es := ?es) ?s ?h ?h' ?k); (case h => assumption); (case h' => walk_at "is"); (case s => walk_at "ex"); intro a b S)
  | ((with_reducible refine g_listOf (M := ?m) (ds := ?ds) ?c ?d ?h ?k); (case c => assumption); (case d => walk_at "dom"); (case h => first | (refine Or.inl ?_; walk_at "is") | (refine Or.inr ?_; walk_at "is")); intro v H' hs hv)
  | ((with_reducible refine g_tupOf (M := ?m) (ds := ?ds) ?c ?d ?h ?k); (case c => assumption); (case d => walk_at "dom"); (case h => walk_at "is"); intro v H' hs hv)
  | ((with_reducible refine g_tupK (M := ?m) (ds := ?ds) ?c ?d ?h ?l ?k); (case c => assumption); (case d => walk_at "dom"); (case h => walk_at "isa"); (case l => (simp only [List.length_cons, List.length_nil]; omega)); intro v H' hs hv)
  | ((with_reducible refine g_tupT (M := ?m) (ds := ?ds) ?c ?h ?e ?k); (case c => assumption); (case h => walk_at "is"); (case e => rfl); intro xs hxs)
  | with_reducible refine g_and ?_
  | with_reducible refine g_or ?_
  | with_reducible refine g_not ?_
  | with_reducible refine g_yes ?_
  | with_reducible refine g_tru ?_
  | with_reducible refine g_fld ?_
  | with_reducible refine g_meth ?_
  | with_reducible refine g_make ?_
  | with_reducible refine g_tupE ?_
  | with_reducible refine g_lstE ?_
  | with_reducible refine g_sl ?_
  | with_reducible refine g_part ?_
  | with_reducible refine g_nopart ?_
  | with_reducible refine g_bm ?_
  | with_reducible refine g_bm0 ?_
  | with_reducible refine g_if ?_
  | with_reducible refine g_un ?_
  | with_reducible refine g_isN ?_
  | with_reducible refine g_notN ?_
  | with_reducible refine g_andV ?_
  | with_reducible refine g_orV ?_
  | with_reducible refine g_notV ?_
  | with_reducible refine g_lc ?_
  | with_reducible refine g_dget ?_
  | with_reducible refine g_din ?_
  | with_reducible refine g_dnotin ?_
  | with_reducible refine g_fldS ?_
  | with_reducible refine g_dput ?_
  | with_reducible refine g_sub ?_
  | with_reducible refine g_consT ?_
  | with_reducible refine g_nilT ?_
  | ((with_reducible refine g_name (σ' := ?s) ?h ?k); (case h => (dsimp only [List.set]; exact rfl)))
  | with_reducible refine w_list ?_
  | with_reducible refine w_tup ?_
  | with_reducible refine w_rng1 ?_
  | with_reducible refine w_enumT ?_
  | with_reducible refine w_enum ?_
  | with_reducible refine w_zip ?_
  | with_reducible refine w_zipM ?_
  | with_reducible refine w_zipA ?_
  | with_reducible refine w_rng ?_
  | with_reducible refine g_int1 ?_
  | ((with_reducible refine g_ixT (M := ?m) (ds := ?ds) (d := ?d) ?c ?h ?e ?k); (case c => assumption); (case h => walk_at "is"); (case e => walk_at "at"); walk_at "sc")
  | ((with_reducible refine g_ixL (M := ?m) (ds := ?ds) (d := ?d) ?c ?h ?e ?k); (case c => assumption); (case h => walk_at "is"); (case e => walk_at "at"); walk_at "sc")
  | ((with_reducible refine g_lenL (M := ?m) (ds := ?ds) ?c ?h ?k); (case c => assumption); (case h => walk_at "is"))
  | ((with_reducible refine g_lenT (M := ?m) (ds := ?ds) ?c ?h ?k); (case c => assumption); (case h => walk_at "is")))
local macro_rules | `(tactic| walk_at "len") => `(tactic| ((try simp only [List.length_map, List.length_append, List.length_cons, List.length_nil, List.length_range, List.length_zip]); omega))
local macro_rules | `(tactic| walk_at "gg") => `(tactic| repeat walk_at "g")
abbrev Size := Int × List (Int × Int)
@[reducible] def encRow (r : List Size) : PyData := .list (r.map encS)
@[reducible] def encRg (l : List (Int × Int)) : PyData := .tuple (l.map encP)
def spCheckDelay : Sp := SpF (fun p : Int × Int => [.int p.1, .int p.2]) (fun p => 0 ≤ p.1 ∧ p.1 + 2 ≤ p.2) fun _ d => d = .none
theorem r_check_delay {K : PySem.W.Frag} {vs : List V} {H : Hp} {Q : VK} {E : XK} {b c : L2.St → Hp → Prop} (h : spCheckDelay vs H Q E) : rd_check_delay K ⟨fun _ H' => Q .non H', Q, b, c⟩ (start N_check_delay vs) H := by
  obtain ⟨M, p, dm, ⟨h1, h2⟩, hv, k⟩ := h
  obtain ⟨v, r, rfl, is1, hr⟩ := hv.cons_inv
  obtain ⟨v2, r, rfl, is2, hr⟩ := hr.cons_inv
  obtain rfl := hr.nil_inv
  obtain rfl := is1.int_inv
  obtain rfl := is2.int_inv
  show rd_check_delay K _ [some (.int p.1), some (.int p.2)] H
  unfold rd_check_delay
  walk_at "gg"
  rw [decide_eq_false (show ¬ (p.1 < 0) by omega)]
  walk_at "gg"
  rw [decide_eq_false (show ¬ (p.2 < p.1 + 2) by omega)]
  walk_at "gg"
  exact k _ _ _ rfl (Same.refl _) Is.non
def spCheckStart : Sp := SpF (fun p : Int × Int => [.int p.1, .int p.2]) (fun p => p.1 ≤ p.2) fun _ d => d = .none
theorem r_check_start {K : PySem.W.Frag} {vs : List V} {H : Hp} {Q : VK} {E : XK} {b c : L2.St → Hp → Prop} (h : spCheckStart vs H Q E) : rd_check_start K ⟨fun _ H' => Q .non H', Q, b, c⟩ (start N_check_start vs) H := by
  obtain ⟨M, p, dm, h1, hv, k⟩ := h
  obtain ⟨v, r, rfl, is1, hr⟩ := hv.cons_inv
  obtain ⟨v2, r, rfl, is2, hr⟩ := hr.cons_inv
  obtain rfl := hr.nil_inv
  obtain rfl := is1.int_inv
  obtain rfl := is2.int_inv
  show rd_check_start K _ [some (.int p.1), some (.int p.2)] H
  unfold rd_check_start
  walk_at "gg"
  rw [decide_eq_false (show ¬ (p.2 < p.1) by omega)]
  walk_at "gg"
  exact k _ _ _ rfl (Same.refl _) Is.non
def wr (c : Circ) (rows : List (List (Int × Int))) : Circ := { c with gates := (c.gates.zip rows).map fun p => { p.1 with rngs := p.2 } }
@[reducible] def encRows (rows : List (List (Int × Int))) : PyData := .list (rows.map encRg)
def spWithRanges : Sp := SpF (fun p : Circ × List (List (Int × Int)) => [encC p.1, encRows p.2]) (fun p => p.1.gates.length < 1000 ∧ p.2.length < 1000) fun p d => d = encC (wr p.1 p.2)
theorem r_with_ranges {K : PySem.W.Frag} {vs : List V} {H : Hp} {Q : VK} {E : XK} {n b c : L2.St → Hp → Prop} (h : spWithRanges vs H Q E) : rd_with_ranges K ⟨n, Q, b, c⟩ (start N_with_ranges vs) H := by
  obtain ⟨M, ⟨ci, rows⟩, dm, ⟨h1, h2⟩, hv, k⟩ := h
  dsimp only at h1 h2 hv k
  obtain ⟨v, r, rfl, is1, hr⟩ := hv.cons_inv
  obtain ⟨v2, r, rfl, is2, hr⟩ := hr.cons_inv
  obtain rfl := hr.nil_inv
  have cu := Sg.cur M
  show rd_with_ranges K _ [some v, some v2, none, none, none] H
  unfold rd_with_ranges
  walk_at "gg"
  refine lc_map (src_zip_map ‹Src _ _ _›) (fun p : Gate × List (Int × Int) => some (encG { p.1 with rngs := p.2 })) cu (by walk_at "dom") (by walk_at "ex") (by walk_at "len") (fun i a x L H' Y No hd cu dm sM s0 is1 kY kN => ?_) (fun v3 H2 s2 is3 => ?_)
  · show gTup K 2 _ x [some v, some v2, none, none, none] H' _
    walk_at "g"
    rename_i xs hxs
    obtain ⟨w1, rr, rfl, i1, hrr⟩ := hxs.cons_inv
    obtain ⟨w2, rr, rfl, i2, hrr⟩ := hrr.cons_inv
    obtain rfl := hrr.nil_inv
    walk_at "gg"
    exact kY _ _ _ (by walk_at "ex") (by assumption) rfl
  · rw [fm_some] at is3
    walk_at "gg"
    refine k _ _ _ ?_ (by walk_at "ex") (by assumption)
    unfold wr encC
    simp only [List.map_map]
    rfl
def chosenR (sizes : List (List Size)) (ch : List Nat) : List (List (Int × Int)) := (sizes.zip ch).map fun p => (p.1.getD p.2 (0, [])).2
def costR (sizes : List (List Size)) (ch : List Nat) : Int := ((sizes.zip ch).map fun p => (p.1.getD p.2 (0, [])).1).sum
def ChOk (sizes : List (List Size)) (ch : List Nat) : Prop := ∀ p ∈ sizes.zip ch, p.2 < p.1.length
theorem ChOk.at {sizes : List (List Size)} {ch : List Nat} (h : ChOk sizes ch) {i : Nat} {p : List Size × Nat} (e : (sizes.zip ch)[i]? = some p) : p.1[p.2]? = some (p.1.getD p.2 (0, [])) := by
  have hl := h p (List.mem_of_getElem? e)
  rw [List.getD_eq_getElem?_getD, List.getElem?_eq_getElem hl]
  rfl
def spChosenRanges : Sp := SpF (fun p : List (List Size) × List Nat => [encSS p.1, encCh p.2]) (fun p => ChOk p.1 p.2 ∧ p.1.length < 1000) fun p d => d = encRows (chosenR p.1 p.2)
theorem r_chosen_ranges {K : PySem.W.Frag} {vs : List V} {H : Hp} {Q : VK} {E : XK} {n b c : L2.St → Hp → Prop} (h : spChosenRanges vs H Q E) : rd_chosen_ranges K ⟨n, Q, b, c⟩ (start N_chosen_ranges vs) H := by
  obtain ⟨M, ⟨sizes, ch⟩, dm, ⟨h1, h2⟩, hv, k⟩ := h
  dsimp only at h1 h2 hv k
  obtain ⟨v, r, rfl, is1, hr⟩ := hv.cons_inv
  obtain ⟨v2, r, rfl, is2, hr⟩ := hr.cons_inv
  obtain rfl := hr.nil_inv
  have cu := Sg.cur M
  show rd_chosen_ranges K _ [some v, some v2, none, none] H
  unfold rd_chosen_ranges
  walk_at "gg"
  refine lc_map (src_zip_map (f := encRow) (g := fun k : Nat => PyData.int ((k : Nat) : Int)) ‹Src _ _ _›) (fun p : List Size × Nat => some (encRg (p.1.getD p.2 (0, [])).2)) cu (by walk_at "dom") (by walk_at "ex") (by walk_at "len") (fun i a x L H' Y No hd cu dm sM s0 is1 kY kN => ?_) (fun v3 H2 s2 is3 => ?_)
  · show gTup K 2 _ x [some v, some v2, none, none] H' _
    walk_at "g"
    rename_i xs hxs
    obtain ⟨w1, rr, rfl, i1, hrr⟩ := hxs.cons_inv
    obtain ⟨w2, rr, rfl, i2, hrr⟩ := hrr.cons_inv
    obtain rfl := hrr.nil_inv
    obtain rfl := i2.int_inv
    have at_ := h1.at hd
    walk_at "gg"
    exact kY _ _ _ (by walk_at "ex") (by assumption) rfl
  · rw [fm_some] at is3
    refine k _ _ _ ?_ (by walk_at "ex") is3
    unfold chosenR encRows
    rw [List.map_map]
    rfl
def spTotalCost : Sp := SpF (fun p : List (List Size) × List Nat => [encSS p.1, encCh p.2]) (fun p => ChOk p.1 p.2 ∧ p.1.length < 1000) fun p d => d = .int (costR p.1 p.2)
theorem r_total_cost {K : PySem.W.Frag} {vs : List V} {H : Hp} {Q : VK} {E : XK} {n b c : L2.St → Hp → Prop} (h : spTotalCost vs H Q E) : rd_total_cost K ⟨n, Q, b, c⟩ (start N_total_cost vs) H := by
  obtain ⟨M, ⟨sizes, ch⟩, dm, ⟨h1, h2⟩, hv, k⟩ := h
  dsimp only at h1 h2 hv k
  obtain ⟨v, r, rfl, is1, hr⟩ := hv.cons_inv
  obtain ⟨v2, r, rfl, is2, hr⟩ := hr.cons_inv
  obtain rfl := hr.nil_inv
  have cu := Sg.cur M
  show rd_total_cost K _ [some v, some v2, none, none] H
  unfold rd_total_cost
  walk_at "gg"
  refine lc_map (src_zip_map (f := encRow) (g := fun k : Nat => PyData.int ((k : Nat) : Int)) ‹Src _ _ _›) (fun p : List Size × Nat => some (.int (p.1.getD p.2 (0, [])).1)) cu (by walk_at "dom") (by walk_at "ex") (by walk_at "len") (fun i a x L H' Y No hd cu dm sM s0 is1 kY kN => ?_) (fun v3 H2 s2 is3 => ?_)
  · show gTup K 2 _ x [some v, some v2, none, none] H' _
    walk_at "g"
    rename_i xs hxs
    obtain ⟨w1, rr, rfl, i1, hrr⟩ := hxs.cons_inv
    obtain ⟨w2, rr, rfl, i2, hrr⟩ := hrr.cons_inv
    obtain rfl := hrr.nil_inv
    obtain rfl := i2.int_inv
    have at_ := h1.at hd
    walk_at "gg"
    exact kY _ _ _ (by walk_at "ex") (Is.int _) rfl
  · rw [fm_some] at is3
    walk_at "gg"
    have e : (sizes.zip ch).map (fun p => PyData.int (p.1.getD p.2 (0, [])).1) = ((sizes.zip ch).map fun p => (p.1.getD p.2 (0, [])).1).map PyData.int := by rw [List.map_map]; rfl
    rw [e] at is3
    refine g_sum cu is3 ?_
    exact k _ _ _ rfl (by walk_at "ex") (Is.int _)

end Sg
namespace Sg
open PySem PySem.Spec PyProof.Rows L2
def srcL (c : Circ) (st : List (Int × Int)) : List (Str × Int) := (srcs c).zip (st.map (·.2))
def gsL (c : Circ) : List (Str × List Str) := c.gates.map fun g => (g.name, g.nets)
def hsL (c : Circ) : List (List Int) := c.gates.map fun g => g.rngs.map (·.2)
def Known (c : Circ) (pre : List Nat) (n : Str) : Prop := n ∈ srcs c ∨ ∃ j ∈ pre, ∃ g, c.gates[j]? = some g ∧ g.name = n
structure LateP (c : Circ) (sl : List (Str × Int)) (hs : List (List Int)) (pre : List Nat) (t : Str → Option Int) : Prop where
  src : ∀ s l, (s, l) ∈ sl → t s = some l
  gate : ∀ i ∈ pre, ∀ g h, c.gates[i]? = some g → hs[i]? = some h → IsMax (sums t g.nets h) (t g.name)
theorem ixOf_mem {s : Str} {l : List Gate} (h : s ∈ l.map (·.name)) : ∃ j, ixOf s l = some j := by
  cases e : ixOf s l with
  | none => exact absurd h (ixOf_none e)
  | some j => exact ⟨j, rfl⟩
theorem Sound.not_src {c : Circ} (S : Sound c) {g : Gate} (hg : g ∈ c.gates) : g.name ∉ srcs c := fun h => by
  have nd := S.nd
  unfold nets at nd
  rw [List.nodup_append] at nd
  exact nd.2.2 _ h _ (List.mem_map.mpr ⟨g, hg, rfl⟩) rfl
theorem Sound.names {c : Circ} (S : Sound c) : (c.gates.map (·.name)).Nodup := by
  have nd := S.nd
  unfold nets at nd
  rw [List.nodup_append] at nd
  exact nd.2.1
theorem Sound.snd {c : Circ} (S : Sound c) : (srcs c).Nodup := by
  have nd := S.nd
  unfold nets at nd
  rw [List.nodup_append] at nd
  exact nd.1
theorem Sound.same_ix {c : Circ} (S : Sound c) {i j : Nat} {g g' : Gate} (h : c.gates[i]? = some g) (h' : c.gates[j]? = some g') (e : g.name = g'.name) : i = j := by
  have nd := S.names
  have hi := (List.getElem?_eq_some_iff.mp h).1
  have hj := (List.getElem?_eq_some_iff.mp h').1
  have h1 : (c.gates.map (·.name))[i]? = some g.name := by rw [List.getElem?_map, h]; rfl
  have h2 : (c.gates.map (·.name))[j]? = some g.name := by rw [List.getElem?_map, h', e]; rfl
  exact (List.getElem?_inj (by rw [List.length_map]; exact hi) nd).mp (h1.trans h2.symm)
theorem known_nets {c : Circ} (S : Sound c) {pre : List Nat} {g : Gate} (hg : g ∈ c.gates) (hw : ∀ j ∈ waits c g, j ∈ pre) : ∀ n ∈ g.nets, Known c pre n := fun n hn => by
  obtain ⟨r, hr⟩ := S.rank
  rcases hr g hg n hn with q | ⟨q, _⟩
  · exact .inl q
  · obtain ⟨j, hj⟩ := ixOf_mem q
    obtain ⟨g', h1, h2⟩ := ixOf_some hj
    exact .inr ⟨j, hw j (List.mem_filterMap.mpr ⟨n, hn, hj⟩), g', h1, h2⟩
theorem not_known {c : Circ} (S : Sound c) {pre : List Nat} {i : Nat} {g : Gate} (hg : c.gates[i]? = some g) (hi : i ∉ pre) : ¬ Known c pre g.name := by
  rintro (q | ⟨j, hj, g', h1, h2⟩)
  · exact S.not_src (List.mem_of_getElem? hg) q
  · have := S.same_ix h1 hg h2
    subst this
    exact hi hj
theorem Known.mono {c : Circ} {pre : List Nat} {i : Nat} {n : Str} (h : Known c (pre ++ [i]) n) {g : Gate} (hg : c.gates[i]? = some g) : n = g.name ∨ Known c pre n := by
  rcases h with q | ⟨j, hj, g', h1, h2⟩
  · exact .inr (.inl q)
  · rcases List.mem_append.mp hj with q | q
    · exact .inr (.inr ⟨j, q, g', h1, h2⟩)
    · simp at q
      subst q
      rw [hg] at h1
      cases h1
      exact .inl h2.symm
theorem sums_congr {t u : Str → Option Int} : ∀ {nets : List Str} {h : List Int}, (∀ n ∈ nets, t n = u n) → sums t nets h = sums u nets h
  | [], _, _ => rfl
  | n :: ns, [], _ => by simp [sums]
  | n :: ns, x :: h, e => by
    rw [sums_cons, sums_cons, e n List.mem_cons_self, sums_congr fun m hm => e m (List.mem_cons_of_mem _ hm)]
theorem LateP.start {c : Circ} {sl : List (Str × Int)} {hs : List (List Int)} {t : Str → Option Int} (h : ∀ s l, (s, l) ∈ sl → t s = some l) : LateP c sl hs [] t := ⟨h, fun i hi => by simp at hi⟩
theorem LateP.step {c : Circ} {sl : List (Str × Int)} {hs : List (List Int)} {pre : List Nat} {t t' : Str → Option Int} {i : Nat} {g : Gate} {h : List Int} (P : LateP c sl hs pre t) (S : Sound c) (O : Ord c (pre ++ [i]))
    (hsl : ∀ s l, (s, l) ∈ sl → s ∈ srcs c) (hg : c.gates[i]? = some g) (hh : hs[i]? = some h) (same : ∀ n, n ≠ g.name → t' n = t n) (hm : IsMax (sums t g.nets h) (t' g.name)) : LateP c sl hs (pre ++ [i]) t' := by
  have hi : i ∉ pre := fun q => by
    have := O.nd
    rw [List.nodup_append] at this
    exact this.2.2 i q i (by simp) rfl
  have nk := not_known S hg hi
  refine ⟨fun s l hs' => ?_, fun j hj g' h' hg' hh' => ?_⟩
  · rw [same s fun q => nk (by rw [← q]; exact .inl (hsl s l hs'))]
    exact P.src s l hs'
  · have key : ∀ (p : List Nat) (k : Nat) (g1 : Gate), (∀ a ∈ p, a ∈ pre) → c.gates[k]? = some g1 → (∀ j ∈ waits c g1, j ∈ p) → ∀ n ∈ g1.nets, t' n = t n := fun p k g1 hp hk hw n hn => by
      refine same n fun q => nk ?_
      rw [← q]
      rcases known_nets S (List.mem_of_getElem? hk) hw n hn with z | ⟨a, ha, z⟩
      · exact .inl z
      · exact .inr ⟨a, hp a ha, z⟩
    rcases List.mem_append.mp hj with q | q
    · obtain ⟨p1, p2, rfl⟩ := List.append_of_mem q
      obtain ⟨g2, e2, hw⟩ := O.topo p1 j (p2 ++ [i]) (by simp)
      rw [hg'] at e2
      cases e2
      rw [sums_congr (key p1 j g' (fun a ha => by simp [ha]) hg' hw)]
      rw [same g'.name fun z => nk (by rw [← z]; exact .inr ⟨j, by simp, g', hg', rfl⟩)]
      exact P.gate j q g' h' hg' hh'
    · simp at q
      subst q
      rw [hg] at hg'
      cases hg'
      rw [hh] at hh'
      cases hh'
      obtain ⟨g2, e2, hw⟩ := O.topo pre j [] rfl
      rw [hg] at e2
      cases e2
      rw [sums_congr (key pre j g (fun a ha => ha) hg hw)]
      exact hm
theorem LateP.late {c : Circ} {sl : List (Str × Int)} {hs : List (List Int)} {ord : List Nat} {t : Str → Option Int} (P : LateP c sl hs ord t) (O : Ord c ord) (hl : ord.length = c.gates.length) : Late sl (gsL c) hs t := by
  refine ⟨P.src, fun i g nets h hg hh => ?_⟩
  unfold gsL at hg
  rw [List.getElem?_map] at hg
  obtain ⟨g', h1, h2⟩ := Option.map_eq_some_iff.mp hg
  cases h2
  exact P.gate i (O.all hl i (List.getElem?_eq_some_iff.mp h1).1) g' h h1 hh
theorem known_all {c : Circ} {ord : List Nat} (O : Ord c ord) (hl : ord.length = c.gates.length) {n : Str} (hn : n ∈ nets c) : Known c ord n := by
  unfold nets at hn
  rcases List.mem_append.mp hn with q | q
  · exact .inl q
  · obtain ⟨g, hg, rfl⟩ := List.mem_map.mp q
    obtain ⟨i, hi⟩ := List.getElem?_of_mem hg
    exact .inr ⟨i, O.all hl i (List.getElem?_eq_some_iff.mp hi).1, g, hi, rfl⟩
theorem Sound.ranked {c : Circ} (S : Sound c) (st : List (Int × Int)) (hl : st.length = (srcs c).length) : ∃ r, Ranked (srcL c st) (gsL c) r := by
  obtain ⟨r, hr⟩ := S.rank
  refine ⟨r, fun g nets hg n hn => ?_⟩
  unfold gsL at hg
  obtain ⟨g', h1, h2⟩ := List.mem_map.mp hg
  cases h2
  rcases hr g' h1 n hn with q | ⟨q, lt⟩
  · left
    obtain ⟨i, hi⟩ := List.getElem?_of_mem q
    have hi' := (List.getElem?_eq_some_iff.mp hi).1
    refine ⟨(st.map (·.2))[i]'(by rw [List.length_map, hl]; exact hi'), ?_⟩
    refine List.mem_of_getElem? (i := i) ?_
    unfold srcL
    rw [List.getElem?_zip_eq_some]
    exact ⟨hi, List.getElem?_eq_getElem _⟩
  · right
    refine ⟨?_, lt⟩
    obtain ⟨g2, h3, rfl⟩ := List.mem_map.mp q
    exact ⟨g2.nets, List.mem_map.mpr ⟨g2, h3, rfl⟩⟩
theorem srcL_mem {c : Circ} {st : List (Int × Int)} {s : Str} {l : Int} (h : (s, l) ∈ srcL c st) : s ∈ srcs c := (List.of_mem_zip h).1
end Sg
namespace Sg
open PySem PySem.Spec PyProof.Rows L2
section
variable {α : Type}
def lkT : List (Str × α) → Str → Option α
  | [], _ => none
  | e :: r, n => if e.1 = n then some e.2 else lkT r n
def hasT (ts : List (Str × α)) (n : Str) : Bool := ts.any fun e => decide (e.1 = n)
def putT (ts : List (Str × α)) (n : Str) (a : α) : List (Str × α) := if hasT ts n = true then ts.map (fun e => if e.1 = n then (e.1, a) else e) else ts ++ [(n, a)]
theorem lkT_cons {e : Str × α} {r : List (Str × α)} {n : Str} : lkT (e :: r) n = if e.1 = n then some e.2 else lkT r n := rfl
theorem hasT_lk (n : Str) : ∀ ts : List (Str × α), hasT ts n = (lkT ts n).isSome
  | [] => rfl
  | e :: r => by
    have ih := hasT_lk n r
    unfold hasT at ih ⊢
    rw [List.any_cons, ih, lkT_cons]
    by_cases h : e.1 = n
    · simp [h]
    · simp [h]
theorem lk_map (n m : Str) (a : α) : ∀ ts : List (Str × α), lkT (ts.map fun e => if e.1 = n then (e.1, a) else e) m = if m = n then (lkT ts m).map (fun _ => a) else lkT ts m
  | [] => by simp [lkT]
  | e :: r => by
    have ih := lk_map n m a r
    rw [List.map_cons, lkT_cons, lkT_cons, ih]
    by_cases h : e.1 = n
    · rw [if_pos h]
      by_cases h2 : e.1 = m
      · have : m = n := by rw [← h2, h]
        simp [h2, this]
      · simp [h2]
    · rw [if_neg h]
      by_cases h2 : e.1 = m
      · have : ¬ m = n := by rw [← h2]; exact h
        simp [h2, this]
      · simp [h2]
theorem lk_snoc (n m : Str) (a : α) : ∀ ts : List (Str × α), lkT (ts ++ [(n, a)]) m = match lkT ts m with | some b => some b | none => if n = m then some a else none
  | [] => rfl
  | e :: r => by
    have ih := lk_snoc n m a r
    rw [List.cons_append, lkT_cons, lkT_cons, ih]
    by_cases h : e.1 = m
    · simp [h]
    · simp [h]
theorem lk_put (ts : List (Str × α)) (n m : Str) (a : α) : lkT (putT ts n a) m = if m = n then some a else lkT ts m := by
  unfold putT
  by_cases h : hasT ts n = true
  · rw [if_pos h, lk_map]
    by_cases e : m = n
    · subst e
      rw [hasT_lk] at h
      obtain ⟨x, hx⟩ := Option.isSome_iff_exists.mp h
      simp [hx]
    · simp [e]
  · rw [if_neg h, lk_snoc]
    rw [hasT_lk] at h
    by_cases e : m = n
    · subst e
      cases q : lkT ts m with
      | none => simp
      | some b => rw [q] at h; simp at h
    · have e' : ¬ n = m := fun z => e z.symm
      cases q : lkT ts m with
      | none => simp [e, e']
      | some b => simp [e]
theorem len_put (ts : List (Str × α)) (n : Str) (a : α) : (putT ts n a).length ≤ ts.length + 1 := by
  unfold putT
  split
  · simp
  · simp
theorem keys_put (ts : List (Str × α)) (n : Str) (a : α) : (putT ts n a).map (·.1) = if hasT ts n = true then ts.map (·.1) else ts.map (·.1) ++ [n] := by
  unfold putT
  split
  · rw [List.map_map]
    refine List.map_congr_left fun e _ => ?_
    show (if e.1 = n then (e.1, a) else e).1 = e.1
    split <;> rfl
  · simp
theorem hasT_iff {ts : List (Str × α)} {n : Str} : hasT ts n = true ↔ n ∈ ts.map (·.1) := by
  unfold hasT
  rw [List.any_eq_true]
  constructor
  · rintro ⟨e, h1, h2⟩
    exact List.mem_map.mpr ⟨e, h1, of_decide_eq_true h2⟩
  · intro h
    obtain ⟨e, h1, h2⟩ := List.mem_map.mp h
    exact ⟨e, h1, decide_eq_true h2⟩
theorem nodup_put {ts : List (Str × α)} {n : Str} {a : α} (h : (ts.map (·.1)).Nodup) : ((putT ts n a).map (·.1)).Nodup := by
  rw [keys_put]
  split
  · exact h
  · rename_i q
    rw [List.nodup_append]
    refine ⟨h, by simp, fun x hx y hy => ?_⟩
    simp at hy
    subst hy
    intro z
    subst z
    exact q (hasT_iff.mpr hx)
theorem mem_put {ts : List (Str × α)} {n m : Str} {a : α} : m ∈ (putT ts n a).map (·.1) ↔ m = n ∨ m ∈ ts.map (·.1) := by
  rw [keys_put]
  split
  · rename_i q
    constructor
    · exact .inr
    · rintro (z | z)
      · subst z; exact hasT_iff.mp q
      · exact z
  · simp only [List.mem_append, List.mem_singleton]
    exact Or.comm
theorem lk_mem {n : Str} {a : α} : ∀ {ts : List (Str × α)}, (ts.map (·.1)).Nodup → (n, a) ∈ ts → lkT ts n = some a
  | [], _, h => by simp at h
  | e :: r, nd, h => by
    rw [List.map_cons, List.nodup_cons] at nd
    rw [lkT_cons]
    rcases List.mem_cons.mp h with q | q
    · subst q; simp
    · have : ¬ e.1 = n := fun z => nd.1 (by rw [z]; exact List.mem_map.mpr ⟨_, q, rfl⟩)
      rw [if_neg this]
      exact lk_mem nd.2 q
theorem lk_of {n : Str} {a : α} : ∀ {ts : List (Str × α)}, lkT ts n = some a → (n, a) ∈ ts
  | [], h => by simp [lkT] at h
  | e :: r, h => by
    rw [lkT_cons] at h
    by_cases q : e.1 = n
    · rw [if_pos q] at h
      cases h
      subst q
      exact List.mem_cons_self
    · rw [if_neg q] at h
      exact List.mem_cons_of_mem _ (lk_of h)
theorem lk_key {n : Str} {ts : List (Str × α)} (h : n ∈ ts.map (·.1)) : ∃ a, lkT ts n = some a := by
  have := hasT_iff.mpr h
  rw [hasT_lk] at this
  exact Option.isSome_iff_exists.mp this
def IsD (enc : α → PyData) (H : Hp) : List (Str × α) → List (Key × V) → Prop
  | [], [] => True
  | e :: ts, kv :: kvs => kv.1 = .inr e.1 ∧ Is H (enc e.2) kv.2 ∧ IsD enc H ts kvs
  | _, _ => False
variable {enc : α → PyData}
theorem IsD.mono {H H' : Hp} (s : Same H H') : ∀ {ts : List (Str × α)} {kvs : List (Key × V)}, IsD enc H ts kvs → IsD enc H' ts kvs
  | [], [], _ => trivial
  | _ :: _, _ :: _, h => ⟨h.1, h.2.1.mono s, IsD.mono s h.2.2⟩
  | [], _ :: _, h => h.elim
  | _ :: _, [], h => h.elim
theorem IsD.len {H : Hp} : ∀ {ts : List (Str × α)} {kvs : List (Key × V)}, IsD enc H ts kvs → kvs.length = ts.length
  | [], [], _ => rfl
  | _ :: _, _ :: _, h => by simp [IsD.len h.2.2]
  | [], _ :: _, h => h.elim
  | _ :: _, [], h => h.elim
theorem IsD.get {H : Hp} {n : Str} {a : α} : ∀ {ts : List (Str × α)} {kvs : List (Key × V)}, IsD enc H ts kvs → lkT ts n = some a → ∃ v, valV kvs (.inr n) = some v ∧ Is H (enc a) v
  | [], _, _, e => by simp [lkT] at e
  | e :: ts, kv :: kvs, h, q => by
    rw [lkT_cons] at q
    by_cases z : e.1 = n
    · rw [if_pos z] at q
      cases q
      exact ⟨kv.2, valV_pos (by rw [h.1, z]), h.2.1⟩
    · rw [if_neg z] at q
      obtain ⟨v, h1, h2⟩ := IsD.get h.2.2 q
      exact ⟨v, by rw [valV_neg (by rw [h.1]; exact fun w => z (Sum.inr.inj w)), h1], h2⟩
  | _ :: _, [], h, _ => h.elim
theorem IsD.any {H : Hp} {n : Str} : ∀ {ts : List (Str × α)} {kvs : List (Key × V)}, IsD enc H ts kvs → (kvs.any fun kv => decide (kv.1 = .inr n)) = hasT ts n
  | [], [], _ => rfl
  | e :: ts, kv :: kvs, h => by
    unfold hasT
    rw [List.any_cons, List.any_cons, IsD.any h.2.2, h.1]
    have : decide ((Sum.inr e.1 : Key) = Sum.inr n) = decide (e.1 = n) := by
      by_cases q : e.1 = n
      · simp [q]
      · rw [decide_eq_false q]; exact decide_eq_false fun w => q (Sum.inr.inj w)
    rw [this]
    rfl
  | [], _ :: _, h => h.elim
  | _ :: _, [], h => h.elim
theorem IsD.map {H : Hp} {n : Str} {a : α} {v : V} (hv : Is H (enc a) v) : ∀ {ts : List (Str × α)} {kvs : List (Key × V)}, IsD enc H ts kvs → IsD enc H (ts.map fun e => if e.1 = n then (e.1, a) else e) (kvs.map fun kv => if kv.1 = .inr n then (kv.1, v) else kv)
  | [], [], _ => trivial
  | e :: ts, kv :: kvs, h => by
    rw [List.map_cons, List.map_cons]
    by_cases q : e.1 = n
    · rw [if_pos q, if_pos (by rw [h.1, q])]
      exact ⟨h.1, hv, IsD.map hv h.2.2⟩
    · rw [if_neg q, if_neg (by rw [h.1]; exact fun w => q (Sum.inr.inj w))]
      exact ⟨h.1, h.2.1, IsD.map hv h.2.2⟩
  | [], _ :: _, h => h.elim
  | _ :: _, [], h => h.elim
theorem IsD.snoc {H : Hp} {n : Str} {a : α} {v : V} (hv : Is H (enc a) v) : ∀ {ts : List (Str × α)} {kvs : List (Key × V)}, IsD enc H ts kvs → IsD enc H (ts ++ [(n, a)]) (kvs ++ [(.inr n, v)])
  | [], [], _ => ⟨rfl, hv, trivial⟩
  | e :: ts, kv :: kvs, h => ⟨h.1, h.2.1, IsD.snoc hv h.2.2⟩
  | [], _ :: _, h => h.elim
  | _ :: _, [], h => h.elim
theorem IsD.put {H : Hp} {n : Str} {a : α} {v : V} {ts : List (Str × α)} {kvs : List (Key × V)} (h : IsD enc H ts kvs) (hv : Is H (enc a) v) : IsD enc H (putT ts n a) (putK kvs (.inr n) v) := by
  unfold putT putK
  rw [h.any]
  split
  · exact IsD.map hv h
  · exact IsD.snoc hv h
theorem IsD.at {H : Hp} : ∀ {ts : List (Str × α)} {kvs : List (Key × V)} {i : Nat} {e : Str × α}, IsD enc H ts kvs → ts[i]? = some e → ∃ v, kvs[i]? = some (.inr e.1, v) ∧ Is H (enc e.2) v
  | [], _, _, _, _, q => by simp at q
  | e :: ts, kv :: kvs, 0, _, h, q => by
    simp at q
    subst q
    refine ⟨kv.2, ?_, h.2.1⟩
    simp [← h.1]
  | e :: ts, kv :: kvs, i + 1, x, h, q => by
    obtain ⟨v, h1, h2⟩ := IsD.at h.2.2 (i := i) (e := x) (by simpa using q)
    exact ⟨v, by simpa using h1, h2⟩
  | _ :: _, [], _, _, h, _ => h.elim
theorem src_keysD {B : Hp} {d : Addr} {o : Obj} {ts : List (Str × α)} {kvs : List (Key × V)} {N : Hp} (hd : IsD enc N ts kvs) (h : B d = some (.frz o (.dK kvs))) : Src (Itk d o kvs) B (ts.map fun e => .str e.1) := by
  have w := (walk_keys (d := d) (o := o) (kvs := kvs)).mono (G' := fun H => Same B H) (Y' := fun i H x H' => Same H H' ∧ ∀ d M, (ts.map fun e => PyData.str e.1)[i]? = some d → Dom M H → Same B (hol M H) → Is (hol M H') d x) (fun H s => s _ _ h) fun i H x H' hi s y => by
    obtain ⟨e1, k, v, h1, h2⟩ := y
    subst e1 h2
    refine ⟨Same.refl _, fun d M hd' dm sb => ?_⟩
    rw [List.getElem?_map] at hd'
    obtain ⟨p, hp, e⟩ := Option.map_eq_some_iff.mp hd'
    subst e
    obtain ⟨v', h3, _⟩ := hd.at hp
    rw [h1] at h3
    cases h3
    exact .str _
  unfold Src
  rw [List.length_map, ← hd.len]
  exact w
end
theorem src_itemsD {B N : Hp} {d : Addr} {o : Obj} {ts : List (Str × Int)} {kvs : List (Key × V)} (hd : IsD (fun i : Int => PyData.int i) N ts kvs) (h : B d = some (.frz o (.dK kvs))) : Src (Iti d o kvs) B (ts.map fun e => .tuple [.str e.1, .int e.2]) := by
  have w := (walk_items (d := d) (o := o) (kvs := kvs)).mono (G' := fun H => Same B H) (Y' := fun i H x H' => Same H H' ∧ ∀ d M, (ts.map fun e => PyData.tuple [.str e.1, .int e.2])[i]? = some d → Dom M H → Same B (hol M H) → Is (hol M H') d x) (fun H s => s _ _ h) fun i H x H' hi s y => by
    obtain ⟨T, x1, x2, rfl, h2, rfl, h3, h4⟩ := y
    refine ⟨Same.new h2, fun d M hd' dm sb => ?_⟩
    rw [List.getElem?_map] at hd'
    obtain ⟨p, hp, e⟩ := Option.map_eq_some_iff.mp hd'
    subst e
    obtain ⟨v', h5, h6⟩ := hd.at hp
    dsimp only at h3 h4
    rw [h5] at h3 h4
    cases h3
    cases h4
    obtain rfl := h6.int_inv
    exact new_tup dm (.cons (.str _) (.cons (.int _) .nil)) h2
  unfold Src
  rw [List.length_map, ← hd.len]
  exact w
theorem g_iteNT {p q : Prop} (h : p) : if (!false) = true then p else q := h
theorem g_iteNF {p q : Prop} (h : q) : if (!true) = true then p else q := h
def KeysW (x : V) (H1 : Hp) (R : It → Hp → Prop) : Prop := ∃ d o, x = .ref d ∧ ((∃ kvs, H1 d = some (.frz o (.dK kvs)) ∧ R (Itk d o kvs) H1) ∨ ∃ kvs, H1 d = some (.frz o (.dT kvs)) ∧ R (Itkt d o kvs) H1)
def ItemsW (x : V) (H1 : Hp) (R : It → Hp → Prop) : Prop := ∃ d o kvs, x = .ref d ∧ H1 d = some (.frz o (.dK kvs)) ∧ R (Iti d o kvs) H1
section
variable {K : PySem.W.Frag} {H : Hp} {Q : VK} {x y v : V} {M : List Addr} {ds : List PyData} {d l a : Addr} {P : Hp → Prop} {R : It → Hp → Prop} {σ : L2.St} {te : TE} {o : Obj} {kvs : List (Key × V)}
theorem w_keys (k : te σ H fun x H1 => KeysW x H1 R) : iKeys te σ H R := k
theorem w_keysK (h : H d = some (.frz o (.dK kvs))) (k : R (Itk d o kvs) H) : KeysW (.ref d) H R := ⟨d, o, rfl, .inl ⟨kvs, h, k⟩⟩
theorem w_items (k : te σ H fun x H1 => ItemsW x H1 R) : iItems te σ H R := k
theorem w_itemsK (h : H d = some (.frz o (.dK kvs))) (k : R (Iti d o kvs) H) : ItemsW (.ref d) H R := ⟨d, o, kvs, rfl, h, k⟩
theorem g_lock {ts : TS} {n : L2.St → Hp → Prop} {rt : VK} {b c : L2.St → Hp → Prop} (h : H d = some (.dK kvs))
    (k : ∀ od H1, Upd d H H1 → H1 d = some (.frz od (.dK kvs)) → ts ⟨fun σ' H' => H' d = some (.frz od (.dK kvs)) ∧ n σ' (upd H' d (.dK kvs)), fun v H' => H' d = some (.frz od (.dK kvs)) ∧ rt v (upd H' d (.dK kvs)), fun σ' H' => H' d = some (.frz od (.dK kvs)) ∧ b σ' (upd H' d (.dK kvs)), fun σ' H' => H' d = some (.frz od (.dK kvs)) ∧ c σ' (upd H' d (.dK kvs))⟩ σ H1) :
    tLock ts ⟨n, rt, b, c⟩ σ H := ⟨d, .dK kvs, h, trivial, fun od => k od _ .of upd_same⟩
theorem g_lockE (h : H d = some (.dK kvs)) (k : ∀ od H1, Upd d H H1 → H1 d = some (.frz od (.dK kvs)) → te σ H1 fun v H' => H' d = some (.frz od (.dK kvs)) ∧ Q v (upd H' d (.dK kvs))) : tLockE te σ H Q :=
  ⟨d, .dK kvs, h, trivial, fun od => k od _ .of upd_same⟩
theorem g_dgetS {n : Str} (h : H a = some (.dK kvs)) (e : valV kvs (.inr n) = some v) (q : Q v H) : DGetK (.ref a) (.str n) H Q := g_dgetK (k := .inr n) (.inl h) e q
theorem g_dgetF {n : Str} (h : H a = some (.frz o (.dK kvs))) (e : valV kvs (.inr n) = some v) (q : Q v H) : DGetK (.ref a) (.str n) H Q := g_dgetK (k := .inr n) (.inr ⟨o, h⟩) e q
theorem g_makeK {C : Addr} {sp : Sp} {E : XK} {vs : List V} (cu : Cur M) (dm : Dom M H)
    (k : ∀ x dx H2, H x = none → Same (hol M H) (hol (x :: M) H2) → Same H (hol [x] H2) → Dom (x :: M) H2 → x ∉ M → H2 x = some (.ins C dx []) → sp (.ref x :: vs) H2 (fun v H3 => v = .non ∧ Q (.ref x) H3) E) : MakeK C sp E vs H Q := fun x dx hx hd ne => by
  have s : Same H (upd H dx (.own x)) := Same.new hd
  have hx' : (upd H dx (.own x)) x = none := by rw [upd_ne (Ne.symm ne)]; exact hx
  exact k x dx _ hx ((same_hol s).trans (hol_mut hx')) (s.trans (hol_mut (M := []) hx')) (.cons upd_same ((dm.mono s).mono (Same.new hx'))) (dm.not hx) upd_same
end
end Sg
namespace Sg
open PySem PySem.Spec PyProof.Rows L2
local macro_rules | `(tactic| walk_at "ex") => `(tactic| first
  | exact Same.refl _
  | exact hol_le
  | assumption
  | (refine Same.on ?r (same_hol (H := ?b) ?h); (case h => assumption); walk_at "ex")
  | (refine Same.on ?r (Upd.hol (l := ?l) (H := ?b) ?h ?m); (case h => assumption); (case m => simp); walk_at "ex")
  | (refine Same.on (B := ?b) ?r ?h; (case h => assumption); walk_at "ex")
  | (refine Same.on ?r (same1 (A := ?b) ?h); (case h => assumption); walk_at "ex")
  | (refine Same.on ?r (same2 (A := ?b) ?h); (case h => assumption); walk_at "ex")
  | (refine Same.on ?r (hol_le (M := ?m)); walk_at "ex"))
local macro_rules | `(tactic| walk_at "dom") => `(tactic| first
  | assumption
  | exact Dom.nil
  | (refine Dom.mono (H := ?b) ?h ?d; (case h => assumption); walk_at "dom")
  | (refine Dom.cons (o := ?o) ?h ?d; (case h => assumption); walk_at "dom")
  | (refine Dom.holm (A := ?b) (N := ?n) ?h ?d; (case h => assumption); walk_at "dom")
  | (refine Upd.dom (l := ?l) (H := ?b) (o := ?o) ?h ?e ?d; (case h => assumption); (case e => assumption); walk_at "dom"))
local macro_rules | `(tactic| walk_at "is") => `(tactic| first
  | assumption
  | exact Is.int _
  | exact Is.str _
  | exact Is.bl _
  | exact Is.non
  | (refine Is.mono (H := ?b) ?s ?h; (case h => assumption); walk_at "ex"))
local macro_rules | `(tactic| walk_at "isa") => `(tactic| first
  | exact IsA.nil
  | (refine IsA.cons (d := ?x) (ds := ?xs) ?a ?b; (case a => walk_at "is"); (case b => walk_at "isa"))
  | (refine IsA.mono (H := ?b) ?s ?h; (case h => assumption); walk_at "ex"))
local macro_rules | `(tactic| walk_at "at") => `(tactic| first
  | exact at0
  | exact at1
  | exact at2
  | exact at3
  | exact at4
  | (refine atM (a := ?a) ?h; (case h => assumption))
  | (refine atJ (a := ?a) ?h; (case h => assumption)))
local macro_rules | `(tactic| walk_at "sc") => `(tactic| (intro v hv; first
  | ((with_reducible have e := Is.int_inv hv); subst e; clear hv)
  | ((with_reducible have e := Is.str_inv hv); subst e; clear hv)
  | ((with_reducible have e := Is.bool_inv hv); subst e; clear hv)
  | ((with_reducible have e := Is.none_inv hv); subst e; clear hv)
  | skip))
local macro_rules | `(tactic| walk_at "g") => `(tactic| first
  | with_reducible refine g_seq ?_
  | with_reducible refine g_asg ?_
  | with_reducible refine g_ret ?_
  | with_reducible refine g_drop ?_
  | with_reducible refine g_ifS ?_
  | with_reducible refine g_next ?_
  | with_reducible refine g_break ?_
  | with_reducible refine g_for ?_
  | with_reducible refine g_op ?_
  | ((with_reducible refine g_var (v := ?v) ?h ?k); (case h => exact rfl))
  | with_reducible refine g_c ?_
  | with_reducible refine g_I0 ?_
  | with_reducible refine g_U ?_
  | with_reducible refine g_cons ?_
  | with_reducible refine g_nil ?_
  | with_reducible refine g_cb ?_
  | with_reducible refine g_call ?_
  | with_reducible refine g_test ?_
  | with_reducible refine g_bl ?_
  | with_reducible refine g_int ?_
  | with_reducible refine g_B ?_
  | ((with_reducible refine g_wipe ?e ?k); (case e => exact rfl))
  | with_reducible refine g_iteT ?_
  | with_reducible refine g_iteF ?_
  | with_reducible refine g_iteNT ?_
  | with_reducible refine g_iteNF ?_
  | with_reducible refine g_andK ?_
  | with_reducible refine g_orK ?_
  | with_reducible refine g_notK ?_
  | ((with_reducible refine w_tupK (B := ?b) (ds := ?ds) ?s ?h ?k); (case h => assumption); (case s => walk_at "ex"); intro a S)
  | ((with_reducible refine w_listK (B := ?b) (ds := ?ds) ?s ?h ?k); (case h => assumption); (case s => walk_at "ex"); intro a S)
  | ((with_reducible refine w_enumK (B := ?b) (ds := ?ds) ?s ?h ?k); (case h => assumption); (case s => walk_at "ex"); intro a S)
  | ((with_reducible refine w_enumTK (B := ?b) (ds := ?ds) ?s ?h ?k); (case h => assumption); (case s => walk_at "ex"); intro a S)
  | ((with_reducible refine w_zipK (B := ?b) (ds := ?ds) (es := ?es) ?s ?h ?h' ?k); (case h => assumption); (case h' => walk_at "is"); (case s => walk_at "ex"); intro a b S)
  | ((with_reducible refine w_zipMK (B := ?b) (ds := ?ds) (es := ?es) ?s ?h ?h' ?k); (case h => assumption); (case h' => walk_at "is"); (case s => walk_at "ex"); intro a b S)
  | ((with_reducible refine w_zipTK (B := ?b) (ds := ?ds) (es := ?es) ?s ?h ?h' ?k); (case h => assumption); (case h' => walk_at "is"); (case s => walk_at "ex"); intro a b S)
  | ((with_reducible refine g_listOf (M := ?m) (ds := ?ds) ?c ?d ?h ?k); (case c => assumption); (case d => walk_at "dom"); (case h => first | (refine Or.inl ?_; walk_at "is") | (refine Or.inr ?_; walk_at "is")); intro v H' hs hv)
  | ((with_reducible refine g_tupOf (M := ?m) (ds := ?ds) ?c ?d ?h ?k); (case c => assumption); (case d => walk_at "dom"); (case h => walk_at "is"); intro v H' hs hv)
  | ((with_reducible refine g_tupK (M := ?m) (ds := ?ds) ?c ?d ?h ?l ?k); (case c => assumption); (case d => walk_at "dom"); (case h => walk_at "isa"); (case l => (simp only [List.length_cons, List.length_nil]; omega)); intro v H' hs hv)
  | ((with_reducible refine g_tupT (M := ?m) (ds := ?ds) ?c ?h ?e ?k); (case c => assumption); (case h => walk_at "is"); (case e => rfl); intro xs hxs)
  | ((with_reducible refine g_fldK (C := ?c) (dx := ?dx) (fs := ?fs) (v := ?v) ?h ?cl ?na ?l ?k); (case h => assumption); (case cl => assumption); (case na => assumption); (case l => first | assumption | exact rfl))
  | ((with_reducible refine g_dgetS (v := ?v) (kvs := ?kvs) ?h ?e ?k); (case h => assumption); (case e => assumption))
  | with_reducible refine g_and ?_
  | with_reducible refine w_keys ?_
  | with_reducible refine w_items ?_
  | with_reducible refine g_or ?_
  | with_reducible refine g_not ?_
  | with_reducible refine g_yes ?_
  | with_reducible refine g_tru ?_
  | with_reducible refine g_fld ?_
  | with_reducible refine g_meth ?_
  | with_reducible refine g_make ?_
  | with_reducible refine g_tupE ?_
  | with_reducible refine g_lstE ?_
  | with_reducible refine g_sl ?_
  | with_reducible refine g_part ?_
  | with_reducible refine g_nopart ?_
  | with_reducible refine g_bm ?_
  | with_reducible refine g_bm0 ?_
  | with_reducible refine g_if ?_
  | with_reducible refine g_un ?_
  | with_reducible refine g_isN ?_
  | with_reducible refine g_notN ?_
  | with_reducible refine g_andV ?_
  | with_reducible refine g_orV ?_
  | with_reducible refine g_notV ?_
  | with_reducible refine g_lc ?_
  | with_reducible refine g_dget ?_
  | with_reducible refine g_din ?_
  | with_reducible refine g_dnotin ?_
  | with_reducible refine g_fldS ?_
  | with_reducible refine g_dput ?_
  | with_reducible refine g_sub ?_
  | with_reducible refine g_consT ?_
  | with_reducible refine g_nilT ?_
  | ((with_reducible refine g_name (σ' := ?s) ?h ?k); (case h => (dsimp only [List.set]; exact rfl)))
  | with_reducible refine w_list ?_
  | with_reducible refine w_tup ?_
  | with_reducible refine w_rng1 ?_
  | with_reducible refine w_enumT ?_
  | with_reducible refine w_enum ?_
  | with_reducible refine w_zip ?_
  | with_reducible refine w_zipM ?_
  | with_reducible refine w_zipA ?_
  | with_reducible refine w_rng ?_
  | with_reducible refine g_int1 ?_
  | ((with_reducible refine g_ixT (M := ?m) (ds := ?ds) (d := ?d) ?c ?h ?e ?k); (case c => assumption); (case h => walk_at "is"); (case e => walk_at "at"); walk_at "sc")
  | ((with_reducible refine g_ixL (M := ?m) (ds := ?ds) (d := ?d) ?c ?h ?e ?k); (case c => assumption); (case h => walk_at "is"); (case e => walk_at "at"); walk_at "sc")
  | ((with_reducible refine g_lenL (M := ?m) (ds := ?ds) ?c ?h ?k); (case c => assumption); (case h => walk_at "is"))
  | ((with_reducible refine g_lenT (M := ?m) (ds := ?ds) ?c ?h ?k); (case c => assumption); (case h => walk_at "is")))
local macro_rules | `(tactic| walk_at "len") => `(tactic| ((try simp only [List.length_map, List.length_append, List.length_cons, List.length_nil, List.length_range, List.length_zip]); omega))
local macro_rules | `(tactic| walk_at "gg") => `(tactic| repeat walk_at "g")
structure AFld (K : PySem.W.Frag) (C : Addr) : Prop where
  cl : Cls K C
  circuit : NoAttr K C "_circuit"
  starts : NoAttr K C "_starts"
  order : NoAttr K C "_order"
  times : NoAttr K C "_times"
  touched : NoAttr K C "_touched"
@[reducible] def encT : Option (Int × Int) → PyData
  | none => .none
  | some p => encP p
def timeT (ts : List (Str × Option (Int × Int))) (n : Str) : Option Int := (lkT ts n).bind fun o => o.map (·.2)
def spArrival (C : Addr) : Sp := fun vs H Q _ => ∃ (M : List Addr) (x dx : Addr) (fs : List (Str × V)) (cv : V) (c : Circ) (dT : Addr) (kvs : List (Key × V)) (ts : List (Str × Option (Int × Int))) (i : Nat) (g : Gate),
  vs = [.ref x, .int ((i : Nat) : Int)] ∧ Dom M H ∧ H x = some (.ins C dx fs) ∧ fs.lookup ("_circuit" : Str) = some cv ∧ Is (hol M H) (encC c) cv ∧ fs.lookup ("_times" : Str) = some (.ref dT) ∧ H dT = some (.dK kvs) ∧ IsD encT (hol M H) ts kvs ∧
  c.gates[i]? = some g ∧ g.rngs.length = g.nets.length ∧ g.nets.length < 1000 ∧ (∀ n ∈ g.nets, ∃ p, lkT ts n = some p) ∧
  ∀ p v H', Same H H' → Is (hol M H') (encT p) v → IsMax (sums (timeT ts) g.nets (g.rngs.map (·.2))) (p.map (·.2)) → Q v H'
def arrL (ts : List (Str × Option (Int × Int))) (g : Gate) (i : Nat) : List Int := ((g.nets.zip g.rngs).take i).filterMap fun p => (timeT ts p.1).map (· + p.2.2)
theorem arrL_all {ts : List (Str × Option (Int × Int))} {g : Gate} : arrL ts g (g.nets.zip g.rngs).length = sums (timeT ts) g.nets (g.rngs.map (·.2)) := by
  unfold arrL sums
  rw [List.take_length, List.zip_map_right, List.filterMap_map]
  rfl
theorem arrL_snoc {ts : List (Str × Option (Int × Int))} {g : Gate} {i : Nat} {p : Str × (Int × Int)} (h : (g.nets.zip g.rngs)[i]? = some p) : arrL ts g (i + 1) = arrL ts g i ++ (match timeT ts p.1 with | some t => [t + p.2.2] | none => []) := by
  unfold arrL
  rw [List.take_add_one, h, List.filterMap_append]
  show _ = _ ++ _
  congr 1
  cases q : timeT ts p.1 <;> simp [q]
theorem r_arrival {K : PySem.W.Frag} {C : Addr} (A : AFld K C) {vs : List V} {H : Hp} {Q : VK} {E : XK} {n b c : L2.St → Hp → Prop} (h : spArrival C vs H Q E) : rd_Arrivals__arrival K ⟨n, Q, b, c⟩ (start N_Arrivals__arrival vs) H := by
  obtain ⟨M, x, dx, fs, cv, ci, dT, kvs, ts, i, g, rfl, dm, hx, l1, isc, l2, hT, isT, hg, hrl, hnl, hk, k⟩ := h
  obtain ⟨cl, na1, _, _, na4, _⟩ := A
  have cu := Sg.cur M
  show rd_Arrivals__arrival K _ [some (.ref x), some (.int ((i : Nat) : Int)), none, none, none, none, none, none, none, none] H
  unfold rd_Arrivals__arrival
  walk_at "gg"
  rename_i xs hxs
  obtain ⟨v1, rr, rfl, i1, hrr⟩ := hxs.cons_inv
  obtain ⟨v2, rr, rfl, i2, hrr⟩ := hrr.cons_inv
  obtain ⟨v3, rr, rfl, i3, hrr⟩ := hrr.cons_inv
  obtain ⟨v4, rr, rfl, i4, hrr⟩ := hrr.cons_inv
  obtain rfl := hrr.nil_inv
  walk_at "gg"
  refine g_lstM cu (by decide) (fun Le H1 hLe s1 hE s1' s1'' => ?_)
  walk_at "gg"
  refine g_lstM (Sg.cur (Le :: M)) (by decide) (fun Ll H2 hLl s2 hL s2' s2'' => ?_)
  walk_at "gg"
  have nLl : Ll ≠ Le := fun q => by rw [q, hE] at hLl; cases hLl
  have dm2 : Dom (Ll :: Le :: M) H2 := by walk_at "dom"
  have cu2 := Sg.cur (Ll :: Le :: M)
  have s0 : Same H (hol [Ll, Le] H2) := s1''.trans (same_hol (M := [Le]) s2'')
  have alen : ∀ j, (arrL ts g j).length ≤ g.nets.length := fun j => by
    unfold arrL
    refine Nat.le_trans (List.length_filterMap_le _ _) ?_
    rw [List.length_take, List.length_zip]
    omega
  refine for_map (src_zip_map (f := PyData.str) (g := encP) ‹Src _ _ _›) (fun j σ H' => ∃ (es : List Int) (o7 o8 o9 : Option V), σ = [some (.ref x), some (.int ((i : Nat) : Int)), some (.ref Le), some (.ref Ll), some v2, some v3, some v4, o7, o8, o9] ∧
    H' Le = some (.lst (es.map V.int)) ∧ H' Ll = some (.lst ((arrL ts g j).map V.int)) ∧ es.length = (arrL ts g j).length ∧ Same H (hol [Ll, Le] H')) ⟨[], none, none, none, rfl, s2 _ _ hE, hL, rfl, s0⟩ (fun j σ H' p => ?_) (fun j a y σ H6 H7 ha p s67 isx => ?_) (fun σ H6 p => ?_)
  · obtain ⟨_, _, _, _, _, _, _, _, s6⟩ := p
    walk_at "ex"
  · obtain ⟨es, o7, o8, o9, rfl, hE6, hL6, el, s6⟩ := p
    have isx := isx (Ll :: Le :: M) (.cons hL6 (.cons hE6 (dm.mono (s6.trans hol_le)))) (by walk_at "ex")
    have hE7 := s67 _ _ hE6
    have hL7 := s67 _ _ hL6
    have s7 : Same H (hol [Ll, Le] H7) := s6.trans (same_hol (M := [Ll, Le]) s67)
    have hx7 := (s7.trans hol_le) _ _ hx
    have hT7 := (s7.trans hol_le) _ _ hT
    walk_at "g"
    rename_i xs hxs
    obtain ⟨w1, rr, rfl, j1, hrr⟩ := hxs.cons_inv
    obtain ⟨w2, rr, rfl, j2, hrr⟩ := hrr.cons_inv
    obtain rfl := hrr.nil_inv
    obtain rfl := j1.str_inv
    walk_at "gg"
    rename_i xs hxs
    obtain ⟨w3, rr, rfl, j3, hrr⟩ := hxs.cons_inv
    obtain ⟨w4, rr, rfl, j4, hrr⟩ := hrr.cons_inv
    obtain rfl := hrr.nil_inv
    obtain rfl := j3.int_inv
    obtain rfl := j4.int_inv
    have mem : a.1 ∈ g.nets := (List.of_mem_zip (List.mem_of_getElem? ha)).1
    obtain ⟨p, hp⟩ := hk a.1 mem
    have isT7 : IsD encT (hol (Ll :: Le :: M) H7) ts kvs := isT.mono (same_hol (M := M) s7)
    obtain ⟨pv, hpv, isp⟩ := isT7.get hp
    have tp : timeT ts a.1 = p.map (·.2) := by unfold timeT; rw [hp]; rfl
    have len1 := alen j
    walk_at "gg"
    unfold b1_Arrivals__arrival
    walk_at "gg"
    cases p with
    | none =>
      obtain rfl := isp.none_inv
      rw [decide_eq_true rfl]
      walk_at "gg"
      refine ⟨es, _, _, _, rfl, hE7, ?_, ?_, s7⟩
      · rw [arrL_snoc ha, tp]
        simpa using hL7
      · rw [arrL_snoc ha, tp]
        simpa using el
    | some q =>
      obtain ⟨pa, pxs, rfl, _, _⟩ := id isp.tup_inv
      rw [decide_eq_false (by intro z; cases z)]
      walk_at "gg"
      refine g_ty hE7 ?_
      walk_at "gg"
      refine g_app hE7 (by rw [List.length_map]; omega) (fun H8 u8 hE8 => ?_)
      have hL8 := u8.at nLl hL7
      have s8 : Same H (hol [Ll, Le] H8) := s7.trans (Upd.hol u8 (by simp))
      have hx8 := (s8.trans hol_le) _ _ hx
      have hT8 := (s8.trans hol_le) _ _ hT
      have isp8 := isp.mono (Upd.hol u8 (M := Ll :: Le :: M) (by simp))
      walk_at "gg"
      refine g_ty hL8 ?_
      walk_at "gg"
      refine g_app hL8 (by rw [List.length_map]; omega) (fun H9 u9 hL9 => ?_)
      have hE9 := u9.at nLl.symm hE8
      refine ⟨es ++ [_], _, _, _, rfl, by rw [hE9, List.map_append]; rfl, ?_, ?_, s8.trans (Upd.hol u9 (by simp))⟩
      · rw [hL9, arrL_snoc ha, tp, List.map_append]
        rfl
      · rw [arrL_snoc ha, tp, List.length_append, List.length_append, el]
        rfl
  · obtain ⟨es, o7, o8, o9, rfl, hE6, hL6, el, s6⟩ := p
    have hlen : ((g.nets.map PyData.str).zip (g.rngs.map encP)).length = (g.nets.zip g.rngs).length := by simp
    rw [arrL_all] at hL6 el
    walk_at "gg"
    clear cu2
    cases es with
    | nil =>
      refine ⟨false, .inl ⟨_, .inl (.inl hE6), rfl⟩, ?_⟩
      walk_at "gg"
      have : sums (timeT ts) g.nets (g.rngs.map (·.2)) = [] := List.eq_nil_of_length_eq_zero el.symm
      exact k none _ _ (by walk_at "ex") Is.non (.inl ⟨this, rfl⟩)
    | cons e es =>
      refine ⟨true, .inl ⟨_, .inl (.inl hE6), rfl⟩, ?_⟩
      walk_at "gg"
      refine g_minM hE6 (by simp) (fun m hm _ => ?_)
      walk_at "gg"
      refine g_maxM hL6 (by rw [← el]; simp) (fun m2 hm2 hmax => ?_)
      walk_at "gg"
      exact k (some (m, m2)) _ _ (by walk_at "ex") (by assumption) (.inr ⟨m2, hm2, hmax, rfl⟩)
theorem ok_arrival {P : Program} {w : World} {K : PySem.W.Frag} {mg : Str → Option Value} {base : Heap} {C : Addr} {f : Addr} {fd : FuncData} (F : Fun K "_arrival" "Arrivals._arrival" s_Arrivals__arrival f fd) (T : Bl mg) (A : AFld K C) : FnOk P w K mg base CX0 1 f fd ["self", "index"] (spArrival C) :=
  F.ok sc_Arrivals__arrival (fun vs H Q E h => by
    obtain ⟨_, _, _, _, _, _, _, _, _, _, _, rfl, _⟩ := h
    rfl) fun cdv A' outer s H vs Q E hr h => ⟨_, dv_Arrivals__arrival T hr, r_arrival A h⟩
structure Arr (C : Addr) (H : Hp) (x : Addr) (c : Circ) (t : Str → Option Int) : Prop where
  ex : ∃ (dx : Addr) (fs : List (Str × V)) (cv : V) (dT : Addr) (kvs : List (Key × V)) (ts : List (Str × Option (Int × Int))), H x = some (.ins C dx fs) ∧ fs.lookup ("_circuit" : Str) = some cv ∧ Is H (encC c) cv ∧ fs.lookup ("_times" : Str) = some (.ref dT) ∧
    H dT = some (.dK kvs) ∧ IsD encT H ts kvs ∧ fs.lookup ("late" : Str) = none ∧ (∀ n ∈ nets c, ∃ p, lkT ts n = some p) ∧ t = timeT ts
theorem Arr.mono {C : Addr} {H H' : Hp} {x : Addr} {c : Circ} {t : Str → Option Int} (s : Same H H') (h : Arr C H x c t) : Arr C H' x c t := by
  obtain ⟨dx, fs, cv, dT, kvs, ts, h1, h2, h3, h4, h5, h6, h7⟩ := h.ex
  exact ⟨dx, fs, cv, dT, kvs, ts, s _ _ h1, h2, h3.mono s, h4, s _ _ h5, h6.mono s, h7⟩
@[reducible] def encI : Option Int → PyData
  | none => .none
  | some i => .int i
def spLate (C : Addr) : Sp := fun vs H Q _ => ∃ (x : Addr) (n : Str) (c : Circ) (t : Str → Option Int), vs = [.ref x, .str n] ∧ Arr C H x c t ∧ Sound c ∧ n ∈ nets c ∧ ∀ v H', Same H H' → (∀ N, Is N (encI (t n)) v) → Q v H'
theorem r_late {K : PySem.W.Frag} {C : Addr} (A : AFld K C) {vs : List V} {H : Hp} {Q : VK} {E : XK} {n b c : L2.St → Hp → Prop} (h : spLate C vs H Q E) : rd_Arrivals_late K spCheckNet ⟨n, Q, b, c⟩ (start N_Arrivals_late vs) H := by
  obtain ⟨x, nm, ci, t, rfl, a, S, hn, k⟩ := h
  obtain ⟨dx, fs, cv, dT, kvs, ts, hx, l1, isc, l2, hT, isT, _, hall, rfl⟩ := a.ex
  obtain ⟨cl, na1, _, _, na4, _⟩ := A
  have cu := Sg.cur []
  have dm : Dom [] H := .nil
  have isc' : Is (hol [] H) (encC ci) cv := isc
  show rd_Arrivals_late K _ _ [some (.ref x), some (.str nm), none] H
  unfold rd_Arrivals_late
  walk_at "gg"
  refine g_SpF cu (ci, nm) (by walk_at "dom") (by walk_at "isa") ⟨⟨S.few, S.few2⟩, hn⟩ (fun d v H1 hd s1 _ => ?_)
  obtain ⟨p, hp⟩ := hall nm hn
  have isT1 := isT.mono s1
  obtain ⟨pv, hpv, isp⟩ := isT1.get hp
  have tp : timeT ts nm = p.map (·.2) := by unfold timeT; rw [hp]; rfl
  have hx1 := s1 _ _ hx
  have hT1 := s1 _ _ hT
  walk_at "gg"
  rw [tp] at k
  cases p with
  | none =>
    obtain rfl := isp.none_inv
    rw [decide_eq_true rfl]
    walk_at "gg"
    exact k _ _ s1 fun N => Is.non
  | some q =>
    have isp' : Is (hol [] H1) (encP q) pv := isp
    obtain ⟨pa, pxs, rfl, _, _⟩ := id isp.tup_inv
    rw [decide_eq_false (by intro z; cases z)]
    walk_at "gg"
    exact k _ _ s1 fun N => Is.int _
theorem ok_late {P : Program} {w : World} {K : PySem.W.Frag} {mg : Str → Option Value} {base : Heap} {C : Addr} {f : Addr} {fd : FuncData} (F : Fun K "late" "Arrivals.late" s_Arrivals_late f fd) (T : Bl mg) (A : AFld K C) (c1 : Cal P w K mg base 3 "check_net" spCheckNet) : FnOk P w K mg base CX0 4 f fd ["self", "net"] (spLate C) :=
  F.ok sc_Arrivals_late (fun vs H Q E h => by
    obtain ⟨_, _, _, _, rfl, _⟩ := h
    rfl) fun cdv A' outer s H vs Q E hr h => ⟨_, dv_Arrivals_late T c1 hr, r_late A h⟩

end Sg
namespace Sg
open PySem PySem.Spec PyProof.Rows L2
local macro_rules | `(tactic| walk_at "ex") => `(tactic| first
  | exact Same.refl _
  | exact hol_le
  | assumption
  | (refine Same.on ?r (same_hol (H := ?b) ?h); (case h => assumption); walk_at "ex")
  | (refine Same.on ?r (Upd.hol (l := ?l) (H := ?b) ?h ?m); (case h => assumption); (case m => simp); walk_at "ex")
  | (refine Same.on (B := ?b) ?r ?h; (case h => assumption); walk_at "ex")
  | (refine Same.on ?r (same1 (A := ?b) ?h); (case h => assumption); walk_at "ex")
  | (refine Same.on ?r (same2 (A := ?b) ?h); (case h => assumption); walk_at "ex")
  | (refine Same.on ?r (hol_le (M := ?m)); walk_at "ex"))
local macro_rules | `(tactic| walk_at "dom") => `(tactic| first
  | assumption
  | exact Dom.nil
  | (refine Dom.mono (H := ?b) ?h ?d; (case h => assumption); walk_at "dom")
  | (refine Dom.cons (o := ?o) ?h ?d; (case h => assumption); walk_at "dom")
  | (refine Dom.holm (A := ?b) (N := ?n) ?h ?d; (case h => assumption); walk_at "dom")
  | (refine Upd.dom (l := ?l) (H := ?b) (o := ?o) ?h ?e ?d; (case h => assumption); (case e => assumption); walk_at "dom"))
local macro_rules | `(tactic| walk_at "is") => `(tactic| first
  | assumption
  | exact Is.int _
  | exact Is.str _
  | exact Is.bl _
  | exact Is.non
  | (refine Is.mono (H := ?b) ?s ?h; (case h => assumption); walk_at "ex"))
local macro_rules | `(tactic| walk_at "isa") => `(tactic| first
  | exact IsA.nil
  | (refine IsA.cons (d := ?x) (ds := ?xs) ?a ?b; (case a => walk_at "is"); (case b => walk_at "isa"))
  | (refine IsA.mono (H := ?b) ?s ?h; (case h => assumption); walk_at "ex"))
local macro_rules | `(tactic| walk_at "at") => `(tactic| first
  | exact at0
  | exact at1
  | exact at2
  | exact at3
  | exact at4
  | (refine atM (a := ?a) ?h; (case h => assumption))
  | (refine atJ (a := ?a) ?h; (case h => assumption)))
local macro_rules | `(tactic| walk_at "sc") => `(tactic| (intro v hv; first
  | ((with_reducible have e := Is.int_inv hv); subst e; clear hv)
  | ((with_reducible have e := Is.str_inv hv); subst e; clear hv)
  | ((with_reducible have e := Is.bool_inv hv); subst e; clear hv)
  | ((with_reducible have e := Is.none_inv hv); subst e; clear hv)
  | skip))
local macro_rules | `(tactic| walk_at "g") => `(tactic| first
  | with_reducible refine g_seq ?_
  | with_reducible refine g_asg ?_
  | with_reducible refine g_ret ?_
  | with_reducible refine g_drop ?_
  | with_reducible refine g_ifS ?_
  | with_reducible refine g_next ?_
  | with_reducible refine g_break ?_
  | with_reducible refine g_for ?_
  | with_reducible refine g_op ?_
  | ((with_reducible refine g_var (v := ?v) ?h ?k); (case h => exact rfl))
  | with_reducible refine g_c ?_
  | with_reducible refine g_I0 ?_
  | with_reducible refine g_U ?_
  | with_reducible refine g_cons ?_
  | with_reducible refine g_nil ?_
  | with_reducible refine g_cb ?_
  | with_reducible refine g_call ?_
  | with_reducible refine g_test ?_
  | with_reducible refine g_bl ?_
  | with_reducible refine g_int ?_
  | with_reducible refine g_B ?_
  | ((with_reducible refine g_wipe ?e ?k); (case e => exact rfl))
  | with_reducible refine g_iteT ?_
  | with_reducible refine g_iteF ?_
  | with_reducible refine g_iteNT ?_
  | with_reducible refine g_iteNF ?_
  | with_reducible refine g_andK ?_
  | with_reducible refine g_orK ?_
  | with_reducible refine g_notK ?_
  | ((with_reducible refine w_tupK (B := ?b) (ds := ?ds) ?s ?h ?k); (case h => assumption); (case s => walk_at "ex"); intro a S)
  | ((with_reducible refine w_listK (B := ?b) (ds := ?ds) ?s ?h ?k); (case h => assumption); (case s => walk_at "ex"); intro a S)
  | ((with_reducible refine w_enumK (B := ?b) (ds := ?ds) ?s ?h ?k); (case h => assumption); (case s => walk_at "ex"); intro a S)
  | ((with_reducible refine w_enumTK (B := ?b) (ds := ?ds) ?s ?h ?k); (case h => assumption); (case s => walk_at "ex"); intro a S)
  | ((with_reducible refine w_zipK (B := ?b) (ds := ?ds) (es := ?es) ?s ?h ?h' ?k); (case h => assumption); (case h' => walk_at "is"); (case s => walk_at "ex"); intro a b S)
  | ((with_reducible refine w_zipMK (B := ?b) (ds := ?ds) (es := ?es) ?s ?h ?h' ?k); (case h => assumption); (case h' => walk_at "is"); (case s => walk_at "ex"); intro a b S)
  | ((with_reducible refine w_zipTK (B := ?b) (ds := ?ds) (es := ?es) ?s ?h ?h' ?k); (case h => assumption); (case h' => walk_at "is"); (case s => walk_at "ex"); intro a b S)
  | ((with_reducible refine g_listOf (M := ?m) (ds := ?ds) ?c ?d ?h ?k); (case c => assumption); (case d => walk_at "dom"); (case h => first | (refine Or.inl ?_; walk_at "is") | (refine Or.inr ?_; walk_at "is")); intro v H' hs hv)
  | ((with_reducible refine g_tupOf (M := ?m) (ds := ?ds) ?c ?d ?h ?k); (case c => assumption); (case d => walk_at "dom"); (case h => walk_at "is"); intro v H' hs hv)
  | ((with_reducible refine g_tupK (M := ?m) (ds := ?ds) ?c ?d ?h ?l ?k); (case c => assumption); (case d => walk_at "dom"); (case h => walk_at "isa"); (case l => (simp only [List.length_cons, List.length_nil]; omega)); intro v H' hs hv)
  | ((with_reducible refine g_tupT (M := ?m) (ds := ?ds) ?c ?h ?e ?k); (case c => assumption); (case h => walk_at "is"); (case e => rfl); intro xs hxs)
  | ((with_reducible refine g_fldK (C := ?c) (dx := ?dx) (fs := ?fs) (v := ?v) ?h ?cl ?na ?l ?k); (case h => assumption); (case cl => assumption); (case na => assumption); (case l => first | assumption | exact rfl))
  | ((with_reducible refine g_fldM (C := ?c) (dx := ?dx) (fs := ?fs) ?h ?cl ?na ?hl ?k); (case h => assumption); (case cl => assumption); (case na => assumption); (case hl => exact Nat.le_of_ble_eq_true rfl); intro H' u hx)
  | ((with_reducible refine g_dgetS (v := ?v) (kvs := ?kvs) ?h ?e ?k); (case h => assumption); (case e => assumption))
  | with_reducible refine g_and ?_
  | with_reducible refine w_keys ?_
  | with_reducible refine w_items ?_
  | with_reducible refine g_or ?_
  | with_reducible refine g_not ?_
  | with_reducible refine g_yes ?_
  | with_reducible refine g_tru ?_
  | with_reducible refine g_fld ?_
  | with_reducible refine g_meth ?_
  | with_reducible refine g_make ?_
  | with_reducible refine g_tupE ?_
  | with_reducible refine g_lstE ?_
  | with_reducible refine g_sl ?_
  | with_reducible refine g_part ?_
  | with_reducible refine g_nopart ?_
  | with_reducible refine g_bm ?_
  | with_reducible refine g_bm0 ?_
  | with_reducible refine g_if ?_
  | with_reducible refine g_un ?_
  | with_reducible refine g_isN ?_
  | with_reducible refine g_notN ?_
  | with_reducible refine g_andV ?_
  | with_reducible refine g_orV ?_
  | with_reducible refine g_notV ?_
  | with_reducible refine g_lc ?_
  | with_reducible refine g_dget ?_
  | with_reducible refine g_din ?_
  | with_reducible refine g_dnotin ?_
  | with_reducible refine g_fldS ?_
  | with_reducible refine g_dput ?_
  | with_reducible refine g_sub ?_
  | with_reducible refine g_consT ?_
  | with_reducible refine g_nilT ?_
  | ((with_reducible refine g_name (σ' := ?s) ?h ?k); (case h => (dsimp only [List.set]; exact rfl)))
  | with_reducible refine w_list ?_
  | with_reducible refine w_tup ?_
  | with_reducible refine w_rng1 ?_
  | with_reducible refine w_enumT ?_
  | with_reducible refine w_enum ?_
  | with_reducible refine w_zip ?_
  | with_reducible refine w_zipM ?_
  | with_reducible refine w_zipA ?_
  | with_reducible refine w_rng ?_
  | with_reducible refine g_int1 ?_
  | ((with_reducible refine g_ixT (M := ?m) (ds := ?ds) (d := ?d) ?c ?h ?e ?k); (case c => assumption); (case h => walk_at "is"); (case e => walk_at "at"); walk_at "sc")
  | ((with_reducible refine g_ixL (M := ?m) (ds := ?ds) (d := ?d) ?c ?h ?e ?k); (case c => assumption); (case h => walk_at "is"); (case e => walk_at "at"); walk_at "sc")
  | ((with_reducible refine g_lenL (M := ?m) (ds := ?ds) ?c ?h ?k); (case c => assumption); (case h => walk_at "is"))
  | ((with_reducible refine g_lenT (M := ?m) (ds := ?ds) ?c ?h ?k); (case c => assumption); (case h => walk_at "is")))
local macro_rules | `(tactic| walk_at "len") => `(tactic| ((try simp only [List.length_map, List.length_append, List.length_cons, List.length_nil, List.length_range, List.length_zip]); omega))
local macro_rules | `(tactic| walk_at "gg") => `(tactic| repeat walk_at "g")
def spArrInit (C : Addr) : Sp := fun vs H Q _ => ∃ (M : List Addr) (x dx : Addr) (c : Circ) (st : List (Int × Int)) (cv sv : V), vs = [.ref x, cv, sv] ∧ Dom (x :: M) H ∧ x ∉ M ∧ H x = some (.ins C dx []) ∧ Is (hol (x :: M) H) (encC c) cv ∧
  Is (hol (x :: M) H) (.list (st.map encP)) sv ∧ Sound c ∧ st.length = (srcs c).length ∧ (∀ p ∈ st, p.1 ≤ p.2) ∧ ∀ H' t, Same (hol [x] H) (hol [x] H') → Arr C (hol M H') x c t → Late (srcL c st) (gsL c) (hsL c) t → Q .non H'
structure IB (M : List Addr) (x : Addr) (H : Hp) (c : Circ) (cv : V) (st : List (Int × Int)) (sv : V) (H' : Hp) : Prop where
  dm : Dom (x :: M) H'
  sb : Same (hol [x] H) (hol [x] H')
  isc : Is (hol (x :: M) H') (encC c) cv
  iss : Is (hol (x :: M) H') (.list (st.map encP)) sv
section
variable {M : List Addr} {x : Addr} {H : Hp} {c : Circ} {cv : V} {st : List (Int × Int)} {sv : V} {A B : Hp}
theorem IB.same (s : Same A B) (h : IB M x H c cv st sv A) : IB M x H c cv st sv B := ⟨h.dm.mono s, h.sb.trans (same_hol s), h.isc.mono (same_hol s), h.iss.mono (same_hol s)⟩
theorem IB.upd {o : HO} (u : Upd x A B) (hx : B x = some o) (h : IB M x H c cv st sv A) : IB M x H c cv st sv B :=
  ⟨u.dom hx h.dm, h.sb.trans (u.hol (by simp)), h.isc.mono (u.hol (by simp)), h.iss.mono (u.hol (by simp))⟩
end
abbrev fs9 (cv v4 vo : V) (dT : Addr) : List (Str × V) := [("_circuit", cv), ("_starts", v4), ("_order", vo), ("_times", .ref dT)]
structure IC (C : Addr) (M : List Addr) (x dx dT : Addr) (H : Hp) (c : Circ) (cv : V) (st : List (Int × Int)) (sv : V) (ord : List Nat) (vo v4 : V) (ts : List (Str × Option (Int × Int))) (H' : Hp) : Prop where
  hx : H' x = some (.ins C dx (fs9 cv v4 vo dT))
  hT : ∃ kvs, H' dT = some (.dK kvs) ∧ IsD encT (hol (dT :: x :: M) H') ts kvs
  dm : Dom (dT :: x :: M) H'
  sb : Same (hol [x] H) (hol [dT, x] H')
  isc : Is (hol (dT :: x :: M) H') (encC c) cv
  iss : Is (hol (dT :: x :: M) H') (.list (st.map encP)) sv
  iso : Is (hol (dT :: x :: M) H') (encO ord) vo
section
variable {C : Addr} {M : List Addr} {x dx dT : Addr} {H : Hp} {c : Circ} {cv : V} {st : List (Int × Int)} {sv : V} {ord : List Nat} {vo v4 : V} {ts : List (Str × Option (Int × Int))} {A B : Hp}
theorem IC.same (s : Same A B) (h : IC C M x dx dT H c cv st sv ord vo v4 ts A) : IC C M x dx dT H c cv st sv ord vo v4 ts B := by
  obtain ⟨kvs, h1, h2⟩ := h.hT
  exact ⟨s _ _ h.hx, ⟨kvs, s _ _ h1, h2.mono (same_hol s)⟩, h.dm.mono s, h.sb.trans (same_hol (M := [dT, x]) s), h.isc.mono (same_hol s), h.iss.mono (same_hol s), h.iso.mono (same_hol s)⟩
theorem IC.put {kvs : List (Key × V)} {n : Str} {a : Option (Int × Int)} {v : V} (ne : dT ≠ x) (h : IC C M x dx dT H c cv st sv ord vo v4 ts A) (isT : IsD encT (hol (dT :: x :: M) A) ts kvs) (isv : Is (hol (dT :: x :: M) A) (encT a) v) (u : Upd dT A B) (hb : B dT = some (.dK (putK kvs (.inr n) v))) :
    IC C M x dx dT H c cv st sv ord vo v4 (putT ts n a) B :=
  ⟨u.at ne.symm h.hx, ⟨_, hb, (isT.put isv).mono (u.hol (by simp))⟩, u.dom hb h.dm, h.sb.trans (u.hol (by simp)), h.isc.mono (u.hol (by simp)), h.iss.mono (u.hol (by simp)), h.iso.mono (u.hol (by simp))⟩
end
theorem zip_key_ne {l : List Str} {m : List (Int × Int)} (nd : l.Nodup) {i : Nat} {a p : Str × (Int × Int)} (h : (l.zip m)[i]? = some a) (hp : p ∈ (l.zip m).take i) : p.1 ≠ a.1 := by
  obtain ⟨j, hj⟩ := List.getElem?_of_mem hp
  rw [List.getElem?_take] at hj
  by_cases q : j < i
  · rw [if_pos q] at hj
    have h1 := (List.getElem?_zip_eq_some.mp h).1
    have h2 := (List.getElem?_zip_eq_some.mp hj).1
    intro e
    rw [e, ← h1] at h2
    have := (List.getElem?_inj (List.getElem?_eq_some_iff.mp (h2.trans h1)).1 nd).mp h2
    omega
  · rw [if_neg q] at hj
    cases hj
theorem Ord.take {c : Circ} {ord : List Nat} (h : Ord c ord) (k : Nat) : Ord c (ord.take k) :=
  ⟨(List.take_sublist k ord).nodup h.nd, fun i hi => h.lt i (List.mem_of_mem_take hi), fun pre i post e => h.topo pre i (post ++ ord.drop k) ((List.take_append_drop k ord).symm.trans (by rw [e]; simp))⟩
theorem timeT_put {ts : List (Str × Option (Int × Int))} {n : Str} {a : Option (Int × Int)} (m : Str) : timeT (putT ts n a) m = if m = n then a.map (·.2) else timeT ts m := by
  unfold timeT
  rw [lk_put]
  by_cases h : m = n
  · rw [if_pos h, if_pos h]
    rfl
  · rw [if_neg h, if_neg h]
theorem r_arr_init {K : PySem.W.Frag} {C : Addr} (A : AFld K C) {vs : List V} {H : Hp} {Q : VK} {E : XK} {b c : L2.St → Hp → Prop} (h : spArrInit C vs H Q E) : rd_Arrivals_init K C (spArrival C) spCheckStart spGateOrder spSources ⟨fun _ H' => Q .non H', Q, b, c⟩ (start N_Arrivals_init vs) H := by
  obtain ⟨M, x, dx, ci, st, cv, sv, rfl, dm, hxM, hx, isc, iss, S, hl, hst, k⟩ := h
  obtain ⟨cl, na1, na2, na3, na4, na5⟩ := A
  have few := S.few
  have few2 := S.few2
  have sl : (srcs ci).length < 1000 := by unfold srcs; rw [List.length_append, List.length_map]; exact few
  have cu := Sg.cur (x :: M)
  show rd_Arrivals_init K _ _ _ _ _ _ [some (.ref x), some cv, some sv, none, none, none, none, none] H
  unfold rd_Arrivals_init
  walk_at "gg"
  refine g_SpF cu ci (by walk_at "dom") (by walk_at "isa") few (fun d v1 H1 hd s1 is1 => ?_)
  subst hd
  walk_at "gg"
  refine g_ne rfl ?_
  rw [decide_eq_true (by rw [List.length_map, List.length_map, hl])]
  walk_at "gg"
  have hx1 := s1 _ _ hx
  have dm1 := dm.mono s1
  have iss1 := iss.mono (same_hol s1)
  have isc1 := isc.mono (same_hol s1)
  refine for_map ‹Src _ _ (st.map encP)› (fun i σ H' => ∃ (o4 o5 : Option V), σ = [some (.ref x), some cv, some sv, none, o4, o5, none, none] ∧ Same H1 H') ⟨none, none, rfl, Same.refl _⟩ (fun j σ H' p => ?_) (fun j a y σ H6 H7 ha p s67 isx => ?_) (fun σ H2 p => ?_)
  · obtain ⟨_, _, _, s6⟩ := p
    walk_at "ex"
  · obtain ⟨o4, o5, rfl, s6⟩ := p
    have isx := isx (x :: M) (dm1.mono s6) (by walk_at "ex")
    have dm7 := dm1.mono (s6.trans s67)
    walk_at "g"
    rename_i xs hxs
    obtain ⟨w1, rr, rfl, j1, hrr⟩ := hxs.cons_inv
    obtain ⟨w2, rr, rfl, j2, hrr⟩ := hrr.cons_inv
    obtain rfl := hrr.nil_inv
    obtain rfl := j1.int_inv
    obtain rfl := j2.int_inv
    walk_at "gg"
    unfold b1_Arrivals_init
    walk_at "gg"
    refine g_SpF cu a (by walk_at "dom") (by walk_at "isa") (hst a (List.mem_of_getElem? ha)) (fun d v H8 hd s8 _ => ?_)
    exact ⟨_, _, rfl, (s6.trans s67).trans s8⟩
  · obtain ⟨o4, o5, rfl, s2⟩ := p
    have hx2 := s2 _ _ hx1
    have b2 : IB M x H ci cv st sv H2 := IB.same s2 ⟨dm1, same_hol s1, isc1, iss1⟩
    clear iss isc
    obtain ⟨dm2, _, isc2, iss2⟩ := id b2
    iterate 6 walk_at "g"
    rename_i H3 u3 hx3
    have hx3 : H3 x = some (.ins C dx [("_circuit", cv)]) := hx3
    have b3 := b2.upd u3 hx3
    obtain ⟨dm3, _, isc3, iss3⟩ := id b3
    walk_at "gg"
    rename_i v4 H4 s4 hv4
    have hx4 := s4 _ _ hx3
    have b4 := b3.same s4
    refine g_fldM hx4 cl na2 (by simp) (fun H5 u5 hx5 => ?_)
    have hx5 : H5 x = some (.ins C dx [("_circuit", cv), ("_starts", v4)]) := hx5
    have b5 := b4.upd u5 hx5
    obtain ⟨dm5, _, isc5, iss5⟩ := id b5
    walk_at "gg"
    refine g_SpF cu ci (by walk_at "dom") (by walk_at "isa") S (fun d vo H6 hd s6 iso => ?_)
    obtain ⟨ord, hord, hlen, rfl⟩ := hd
    have hx6 := s6 _ _ hx5
    have b6 := b5.same s6
    walk_at "gg"
    rename_i H7 u7 hx7
    have hx7 : H7 x = some (.ins C dx [("_circuit", cv), ("_starts", v4), ("_order", vo)]) := hx7
    have b7 := b6.upd u7 hx7
    have iso7 := iso.mono (Upd.hol u7 (M := x :: M) (by simp))
    refine g_dnewM (Sg.cur (x :: M)) (fun dT H8 hdT s8 hT8 s8' s8'' => ?_)
    have hx8 := s8 _ _ hx7
    have b8 := b7.same s8
    have ndx : dT ≠ x := fun q => by rw [q, hx7] at hdT; cases hdT
    walk_at "gg"
    rename_i H9 u9 hx9
    have hx9 : H9 x = some (.ins C dx [("_circuit", cv), ("_starts", v4), ("_order", vo), ("_times", .ref dT)]) := hx9
    have hT9 := u9.at ndx hT8
    have c9 : IC C M x dx dT H ci cv st sv ord vo v4 [] H9 := by
      have wk : Same (hol (x :: M) H7) (hol (dT :: x :: M) H9) := s8'.trans (u9.hol (by simp))
      exact ⟨hx9, ⟨[], hT9, trivial⟩, .cons hT9 (u9.dom hx9 b8.dm), (b7.sb.trans (same_hol (M := [x]) s8'')).trans (Upd.hol u9 (M := [dT, x]) (by simp)), b7.isc.mono wk, b7.iss.mono wk, iso7.mono wk⟩
    have b7x := b7.dm
    clear b2 b3 b4 b5 b6 b7 b8 iso iso7 isc1 iss1 isc2 iss2 isc3 iss3 isc5 iss5 is1 hv4 dm dm1 dm2 dm3 dm5 cu
    have cu := Sg.cur (dT :: x :: M)
    obtain ⟨_, _, dm9, _, isc9, iss9, _⟩ := id c9
    refine g_SpF cu ci (by walk_at "dom") (by walk_at "isa") few (fun d v10 H10 hd s10 is10 => ?_)
    subst hd
    have c10 := c9.same s10
    have iss10 := c10.iss
    clear c9 dm9 isc9 iss9
    have few3 := hl
    walk_at "gg"
    refine for_map (src_zip_map (f := PyData.str) (g := encP) ‹Src _ _ _›) (fun i σ H' => ∃ (ts : List (Str × Option (Int × Int))) (o6 o7 : Option V), σ = [some (.ref x), some cv, some sv, none, o4, o5, o6, o7] ∧ IC C M x dx dT H ci cv st sv ord vo v4 ts H' ∧
      Same (hol (dT :: x :: M) H10) (hol (dT :: x :: M) H') ∧ (∀ p ∈ ((srcs ci).zip st).take i, lkT ts p.1 = some (some p.2)) ∧ ts.length ≤ i) ⟨[], none, none, rfl, c10, Same.refl _, by simp, Nat.le_refl _⟩ (fun j σ H' p => ?_) (fun j a y σ H11 H12 ha p s12 isx => ?_) (fun σ H11 p => ?_)
    · obtain ⟨_, _, _, _, _, s6, _⟩ := p
      exact s6.trans hol_le
    · obtain ⟨ts, o6, o7, rfl, c11, s11, hts, htl⟩ := p
      have c12 := c11.same s12
      have isx := isx (dT :: x :: M) c11.dm s11
      obtain ⟨kvs, hT12, isT12⟩ := c12.hT
      have hx12 := c12.hx
      have jl := (List.getElem?_eq_some_iff.mp ha).1
      rw [List.length_zip] at jl
      walk_at "g"
      rename_i xs hxs
      obtain ⟨w1, rr, rfl, j1, hrr⟩ := hxs.cons_inv
      obtain ⟨w2, rr, rfl, j2, hrr⟩ := hrr.cons_inv
      obtain rfl := hrr.nil_inv
      obtain rfl := j1.str_inv
      walk_at "gg"
      unfold b2_Arrivals_init
      walk_at "gg"
      refine g_putM (k := .inr a.1) hT12 (by rw [isT12.len]; omega) (fun H13 u13 hT13 => ?_)
      refine ⟨_, _, _, rfl, c12.put (a := some a.2) ndx isT12 j2 u13 hT13, s11.trans ((same_hol s12).trans (u13.hol (by simp))), fun p hp => ?_, ?_⟩
      · rw [List.take_add_one, ha] at hp
        rw [lk_put]
        rcases List.mem_append.mp hp with q | q
        · rw [if_neg (zip_key_ne S.snd ha q)]
          exact hts p q
        · simp at q
          subst q
          rw [if_pos rfl]
      · have := len_put ts a.1 (some a.2)
        omega
    · obtain ⟨ts, o6, o7, rfl, c11, s11, hts, htl⟩ := p
      rw [List.take_length] at hts
      rw [List.length_zip] at htl
      have hx11 := c11.hx
      have iso11 := c11.iso
      have dm11 := c11.dm
      clear c10 iss10
      walk_at "gg"
      have L0 : LateP ci (srcL ci st) (hsL ci) [] (timeT ts) := LateP.start fun s l hs => by
        unfold srcL at hs
        rw [List.zip_map_right] at hs
        obtain ⟨p, hp, e⟩ := List.mem_map.mp hs
        cases e
        show (lkT ts p.1).bind _ = _
        rw [hts p hp]
        rfl
      have K0 : ∀ n, Known ci [] n → ∃ p, lkT ts n = some p := fun n hn => by
        rcases hn with q | ⟨j, hj, _⟩
        · obtain ⟨i, hi⟩ := List.getElem?_of_mem q
          have hi' := (List.getElem?_eq_some_iff.mp hi).1
          have := hts (n, st[i]) (List.mem_of_getElem? (i := i) (List.getElem?_zip_eq_some.mpr ⟨hi, List.getElem?_eq_getElem _⟩))
          exact ⟨_, this⟩
        · simp at hj
      refine for_map ‹Src _ _ (ord.map fun i => PyData.int ((i : Nat) : Int))› (fun i σ H' => ∃ (ts : List (Str × Option (Int × Int))) (o3 : Option V), σ = [some (.ref x), some cv, some sv, o3, o4, o5, o6, o7] ∧ IC C M x dx dT H ci cv st sv ord vo v4 ts H' ∧
        Same (hol (dT :: x :: M) H11) (hol (dT :: x :: M) H') ∧ LateP ci (srcL ci st) (hsL ci) (ord.take i) (timeT ts) ∧ (∀ n, Known ci (ord.take i) n → ∃ p, lkT ts n = some p) ∧ ts.length ≤ 1000 + i) ⟨ts, none, rfl, c11, Same.refl _, L0, K0, by omega⟩ (fun j σ H' p => ?_) (fun j i y σ H12 H13 ha p s13 isx => ?_) (fun σ H12 p => ?_)
      · obtain ⟨_, _, _, _, s6, _⟩ := p
        exact s6.trans hol_le
      · clear c11 hx11 iso11 dm11 L0 K0 hts htl
        obtain ⟨ts, o3, rfl, c12, s12, LP, KN, htl⟩ := p
        have isx := isx (dT :: x :: M) c12.dm s12
        obtain rfl := isx.int_inv
        have c13 := c12.same s13
        obtain ⟨kvs, hT13, isT13⟩ := c13.hT
        have hx13 := c13.hx
        have jl := (List.getElem?_eq_some_iff.mp ha).1
        have tk : ord.take (j + 1) = ord.take j ++ [i] := by rw [List.take_add_one, ha]; rfl
        have O1 : Ord ci (ord.take j ++ [i]) := tk ▸ hord.take (j + 1)
        obtain ⟨g, hg, hw⟩ := O1.topo (ord.take j) i [] rfl
        have gm := List.mem_of_getElem? hg
        have pins := S.pins g gm
        have kn := known_nets S gm hw
        walk_at "gg"
        unfold b3_Arrivals_init
        walk_at "gg"
        refine g_methK hx13 rfl ?_
        walk_at "gg"
        refine ⟨dT :: x :: M, x, dx, _, cv, ci, dT, kvs, ts, i, g, rfl, c13.dm, hx13, rfl, c13.isc, rfl, hT13, isT13, hg, pins.1, pins.2, fun n hn => KN n (kn n hn), fun p v H14 s14 isp hmax => ?_⟩
        have c14 := c13.same s14
        obtain ⟨kvs', hT14, isT14⟩ := c14.hT
        have hx14 := c14.hx
        have isc14 := c14.isc
        walk_at "gg"
        refine g_putM (k := .inr g.name) hT14 (by rw [isT14.len]; omega) (fun H15 u15 hT15 => ?_)
        have hh : (hsL ci)[i]? = some (g.rngs.map (·.2)) := by
          unfold hsL
          rw [List.getElem?_map, hg]
          rfl
        have tput := timeT_put (ts := ts) (n := g.name) (a := p)
        refine ⟨_, _, rfl, c14.put (a := p) ndx isT14 isp u15 hT15, ((s12.trans (same_hol s13)).trans (same_hol s14)).trans (u15.hol (by simp)), ?_, fun n hn => ?_, ?_⟩
        · rw [tk]
          refine LP.step S O1 (fun s l h => srcL_mem h) hg hh (fun n hn => by rw [tput, if_neg hn]) ?_
          rw [tput, if_pos rfl]
          exact hmax
        · rw [tk] at hn
          rw [lk_put]
          rcases hn.mono hg with q | q
          · rw [if_pos q]
            exact ⟨_, rfl⟩
          · by_cases z : n = g.name
            · rw [if_pos z]
              exact ⟨_, rfl⟩
            · rw [if_neg z]
              exact KN n q
        · have := len_put ts g.name p
          omega
      · clear c11 hx11 iso11 dm11 L0 K0 hts htl
        obtain ⟨ts, o3, rfl, c12, s12, LP, KN, htl⟩ := p
        have hx12 := c12.hx
        rw [List.take_length] at LP KN
        walk_at "gg"
        rename_i H13 u13 hx13
        have hx13 : H13 x = some (.ins C dx [("_circuit", cv), ("_starts", v4), ("_order", vo), ("_times", .ref dT), ("_touched", .int 0)]) := hx13
        obtain ⟨kvs, hT12, isT12⟩ := c12.hT
        have dnM : dT ∉ M := fun q => by
          obtain ⟨o, ho⟩ := b7x dT (List.mem_cons_of_mem _ q)
          rw [hdT] at ho
          cases ho
        have sub : Same (hol (dT :: x :: M) H13) (hol M H13) := hol_sub.trans hol_sub
        have sub12 : Same (hol (dT :: x :: M) H12) (hol M H13) := (u13.hol (by simp)).trans sub
        refine k H13 (timeT ts) ?_ ⟨dx, _, cv, dT, kvs, ts, hol_some.mpr ⟨hxM, hx13⟩, rfl, c12.isc.mono sub12, rfl, hol_some.mpr ⟨dnM, u13.at ndx hT12⟩, isT12.mono sub12, rfl, fun n hn => KN n (known_all hord hlen hn), rfl⟩ (LP.late hord hlen)
        exact c12.sb.trans ((u13.hol (by simp)).trans hol_sub)
theorem ok_arr_init {P : Program} {w : World} {K : PySem.W.Frag} {mg : Str → Option Value} {base : Heap} {C : Addr} {f : Addr} {fd : FuncData} (F : Fun K "__init__" "Arrivals.__init__" s_Arrivals_init f fd) (T : Bl mg) (A : AFld K C) (c1 : Met P w K mg base 1 C "_arrival" (spArrival C)) (c2 : Cal P w K mg base 1 "check_start" spCheckStart) (c3 : Cal P w K mg base 2 "gate_order" spGateOrder) (c4 : Cal P w K mg base 1 "sources" spSources) : FnOk P w K mg base CX0 3 f fd ["self", "circuit", "starts"] (spArrInit C) :=
  F.ok sc_Arrivals_init (fun vs H Q E h => by
    obtain ⟨_, _, _, _, _, _, _, rfl, _⟩ := h
    rfl) fun cdv A' outer s H vs Q E hr h => ⟨_, dv_Arrivals_init T c1 c2 c3 c4 hr, r_arr_init A h⟩

end Sg
namespace Sg
open PySem PySem.Spec PyProof.Rows L2
local macro_rules | `(tactic| walk_at "ex") => `(tactic| first
  | exact Same.refl _
  | exact hol_le
  | assumption
  | (refine Same.on ?r (same_hol (H := ?b) ?h); (case h => assumption); walk_at "ex")
  | (refine Same.on ?r (Upd.hol (l := ?l) (H := ?b) ?h ?m); (case h => assumption); (case m => simp); walk_at "ex")
  | (refine Same.on (B := ?b) ?r ?h; (case h => assumption); walk_at "ex")
  | (refine Same.on ?r (same1 (A := ?b) ?h); (case h => assumption); walk_at "ex")
  | (refine Same.on ?r (same2 (A := ?b) ?h); (case h => assumption); walk_at "ex")
  | (refine Same.on ?r (hol_le (M := ?m)); walk_at "ex"))
local macro_rules | `(tactic| walk_at "dom") => `(tactic| first
  | assumption
  | exact Dom.nil
  | (refine Dom.mono (H := ?b) ?h ?d; (case h => assumption); walk_at "dom")
  | (refine Dom.cons (o := ?o) ?h ?d; (case h => assumption); walk_at "dom")
  | (refine Dom.holm (A := ?b) (N := ?n) ?h ?d; (case h => assumption); walk_at "dom")
  | (refine Upd.dom (l := ?l) (H := ?b) (o := ?o) ?h ?e ?d; (case h => assumption); (case e => assumption); walk_at "dom"))
local macro_rules | `(tactic| walk_at "is") => `(tactic| first
  | assumption
  | exact Is.int _
  | exact Is.str _
  | exact Is.bl _
  | exact Is.non
  | (refine Is.mono (H := ?b) ?s ?h; (case h => assumption); walk_at "ex"))
local macro_rules | `(tactic| walk_at "isa") => `(tactic| first
  | exact IsA.nil
  | (refine IsA.cons (d := ?x) (ds := ?xs) ?a ?b; (case a => walk_at "is"); (case b => walk_at "isa"))
  | (refine IsA.mono (H := ?b) ?s ?h; (case h => assumption); walk_at "ex"))
local macro_rules | `(tactic| walk_at "at") => `(tactic| first
  | exact at0
  | exact at1
  | exact at2
  | exact at3
  | exact at4
  | (refine atM (a := ?a) ?h; (case h => assumption))
  | (refine atJ (a := ?a) ?h; (case h => assumption)))
local macro_rules | `(tactic| walk_at "sc") => `(tactic| (intro v hv; first
  | ((with_reducible have e := Is.int_inv hv); subst e; clear hv)
  | ((with_reducible have e := Is.str_inv hv); subst e; clear hv)
  | ((with_reducible have e := Is.bool_inv hv); subst e; clear hv)
  | ((with_reducible have e := Is.none_inv hv); subst e; clear hv)
  | skip))
local macro_rules | `(tactic| walk_at "g") => `(tactic| first
  | with_reducible refine g_seq ?_
  | with_reducible refine g_asg ?_
  | with_reducible refine g_ret ?_
  | with_reducible refine g_drop ?_
  | with_reducible refine g_ifS ?_
  | with_reducible refine g_next ?_
  | with_reducible refine g_break ?_
  | with_reducible refine g_for ?_
  | with_reducible refine g_op ?_
  | ((with_reducible refine g_var (v := ?v) ?h ?k); (case h => exact rfl))
  | with_reducible refine g_c ?_
  | with_reducible refine g_I0 ?_
  | with_reducible refine g_U ?_
  | with_reducible refine g_cons ?_
  | with_reducible refine g_nil ?_
  | with_reducible refine g_cb ?_
  | with_reducible refine g_call ?_
  | with_reducible refine g_test ?_
  | with_reducible refine g_bl ?_
  | with_reducible refine g_int ?_
  | with_reducible refine g_B ?_
  | ((with_reducible refine g_wipe ?e ?k); (case e => exact rfl))
  | with_reducible refine g_iteT ?_
  | with_reducible refine g_iteF ?_
  | with_reducible refine g_iteNT ?_
  | with_reducible refine g_iteNF ?_
  | with_reducible refine g_andK ?_
  | with_reducible refine g_orK ?_
  | with_reducible refine g_notK ?_
  | ((with_reducible refine w_tupK (B := ?b) (ds := ?ds) ?s ?h ?k); (case h => assumption); (case s => walk_at "ex"); intro a S)
  | ((with_reducible refine w_listK (B := ?b) (ds := ?ds) ?s ?h ?k); (case h => assumption); (case s => walk_at "ex"); intro a S)
  | ((with_reducible refine w_enumK (B := ?b) (ds := ?ds) ?s ?h ?k); (case h => assumption); (case s => walk_at "ex"); intro a S)
  | ((with_reducible refine w_enumTK (B := ?b) (ds := ?ds) ?s ?h ?k); (case h => assumption); (case s => walk_at "ex"); intro a S)
  | ((with_reducible refine w_zipK (B := ?b) (ds := ?ds) (es := ?es) ?s ?h ?h' ?k); (case h => assumption); (case h' => walk_at "is"); (case s => walk_at "ex"); intro a b S)
  | ((with_reducible refine w_zipMK (B := ?b) (ds := ?ds) (es := ?es) ?s ?h ?h' ?k); (case h => assumption); (case h' => walk_at "is"); (case s => walk_at "ex"); intro a b S)
  | ((with_reducible refine w_zipTK (B := ?b) (ds := ?ds) (es := ?es) ?s ?h ?h' ?k); (case h => assumption); (case h' => walk_at "is"); (case s => walk_at "ex"); intro a b S)
  | ((with_reducible refine g_listOf (M := ?m) (ds := ?ds) ?c ?d ?h ?k); (case c => assumption); (case d => walk_at "dom"); (case h => first | (refine Or.inl ?_; walk_at "is") | (refine Or.inr ?_; walk_at "is")); intro v H' hs hv)
  | ((with_reducible refine g_tupOf (M := ?m) (ds := ?ds) ?c ?d ?h ?k); (case c => assumption); (case d => walk_at "dom"); (case h => walk_at "is"); intro v H' hs hv)
  | ((with_reducible refine g_tupK (M := ?m) (ds := ?ds) ?c ?d ?h ?l ?k); (case c => assumption); (case d => walk_at "dom"); (case h => walk_at "isa"); (case l => (simp only [List.length_cons, List.length_nil]; omega)); intro v H' hs hv)
  | ((with_reducible refine g_tupT (M := ?m) (ds := ?ds) ?c ?h ?e ?k); (case c => assumption); (case h => walk_at "is"); (case e => rfl); intro xs hxs)
  | ((with_reducible refine g_fldK (C := ?c) (dx := ?dx) (fs := ?fs) (v := ?v) ?h ?cl ?na ?l ?k); (case h => assumption); (case cl => assumption); (case na => assumption); (case l => first | assumption | exact rfl))
  | ((with_reducible refine g_fldM (C := ?c) (dx := ?dx) (fs := ?fs) ?h ?cl ?na ?hl ?k); (case h => assumption); (case cl => assumption); (case na => assumption); (case hl => exact Nat.le_of_ble_eq_true rfl); intro H' u hx)
  | ((with_reducible refine g_dgetS (v := ?v) (kvs := ?kvs) ?h ?e ?k); (case h => assumption); (case e => assumption))
  | with_reducible refine g_and ?_
  | with_reducible refine w_keys ?_
  | with_reducible refine w_items ?_
  | with_reducible refine g_or ?_
  | with_reducible refine g_not ?_
  | with_reducible refine g_yes ?_
  | with_reducible refine g_tru ?_
  | with_reducible refine g_fld ?_
  | with_reducible refine g_meth ?_
  | with_reducible refine g_make ?_
  | with_reducible refine g_tupE ?_
  | with_reducible refine g_lstE ?_
  | with_reducible refine g_sl ?_
  | with_reducible refine g_part ?_
  | with_reducible refine g_nopart ?_
  | with_reducible refine g_bm ?_
  | with_reducible refine g_bm0 ?_
  | with_reducible refine g_if ?_
  | with_reducible refine g_un ?_
  | with_reducible refine g_isN ?_
  | with_reducible refine g_notN ?_
  | with_reducible refine g_andV ?_
  | with_reducible refine g_orV ?_
  | with_reducible refine g_notV ?_
  | with_reducible refine g_lc ?_
  | with_reducible refine g_dget ?_
  | with_reducible refine g_din ?_
  | with_reducible refine g_dnotin ?_
  | with_reducible refine g_fldS ?_
  | with_reducible refine g_dput ?_
  | with_reducible refine g_sub ?_
  | with_reducible refine g_consT ?_
  | with_reducible refine g_nilT ?_
  | ((with_reducible refine g_name (σ' := ?s) ?h ?k); (case h => (dsimp only [List.set]; exact rfl)))
  | with_reducible refine w_list ?_
  | with_reducible refine w_tup ?_
  | with_reducible refine w_rng1 ?_
  | with_reducible refine w_enumT ?_
  | with_reducible refine w_enum ?_
  | with_reducible refine w_zip ?_
  | with_reducible refine w_zipM ?_
  | with_reducible refine w_zipA ?_
  | with_reducible refine w_rng ?_
  | with_reducible refine g_int1 ?_
  | ((with_reducible refine g_ixT (M := ?m) (ds := ?ds) (d := ?d) ?c ?h ?e ?k); (case c => assumption); (case h => walk_at "is"); (case e => walk_at "at"); walk_at "sc")
  | ((with_reducible refine g_ixL (M := ?m) (ds := ?ds) (d := ?d) ?c ?h ?e ?k); (case c => assumption); (case h => walk_at "is"); (case e => walk_at "at"); walk_at "sc")
  | ((with_reducible refine g_lenL (M := ?m) (ds := ?ds) ?c ?h ?k); (case c => assumption); (case h => walk_at "is"))
  | ((with_reducible refine g_lenT (M := ?m) (ds := ?ds) ?c ?h ?k); (case c => assumption); (case h => walk_at "is")))
local macro_rules | `(tactic| walk_at "len") => `(tactic| ((try simp only [List.length_map, List.length_append, List.length_cons, List.length_nil, List.length_range, List.length_zip]); omega))
local macro_rules | `(tactic| walk_at "gg") => `(tactic| repeat walk_at "g")
structure SzOk (c : Circ) (sizes : List (List Size)) : Prop where
  len : sizes.length = c.gates.length
  ne : ∀ r ∈ sizes, r ≠ []
  wid : ∀ (i : Nat) g r, c.gates[i]? = some g → sizes[i]? = some r → ∀ s ∈ r, s.2.length = g.nets.length
  cost : ∀ r ∈ sizes, ∀ s ∈ r, 0 ≤ s.1
  del : ∀ r ∈ sizes, ∀ s ∈ r, ∀ p ∈ s.2, 0 ≤ p.1 ∧ p.1 + 2 ≤ p.2
  few : ∀ r ∈ sizes, r.length < 1000
def spCheckSizes : Sp := SpF (fun p : Circ × List (List Size) => [encC p.1, encSS p.2]) (fun p => Sound p.1 ∧ SzOk p.1 p.2) fun p d => d = .none
theorem no_empty : ∀ {sizes : List (List Size)}, (∀ r ∈ sizes, r ≠ []) → ((sizes.map fun r => PyData.list (r.map encS)).any fun z => PyData.eqv z (.list [])) = false
  | [], _ => rfl
  | [] :: _, h => absurd rfl (h [] List.mem_cons_self)
  | (s :: r) :: l, h => by
    rw [List.map_cons, List.any_cons, no_empty fun r hr => h r (List.mem_cons_of_mem _ hr)]
    rfl
theorem r_check_sizes {K : PySem.W.Frag} {vs : List V} {H : Hp} {Q : VK} {E : XK} {b c : L2.St → Hp → Prop} (h : spCheckSizes vs H Q E) : rd_check_sizes K ⟨fun _ H' => Q .non H', Q, b, c⟩ (start N_check_sizes vs) H := by
  obtain ⟨M, ⟨ci, sizes⟩, dm, ⟨S, Z⟩, hv, k⟩ := h
  dsimp only at S Z hv k
  obtain ⟨v, r, rfl, is1, hr⟩ := hv.cons_inv
  obtain ⟨v2, r, rfl, is2, hr⟩ := hr.cons_inv
  obtain rfl := hr.nil_inv
  have cu := Sg.cur M
  have few2 := S.few2
  have zl := Z.len
  show rd_check_sizes K _ [some v, some v2, none, none, none, none] H
  unfold rd_check_sizes
  walk_at "gg"
  refine g_ne rfl ?_
  rw [decide_eq_true (by rw [List.length_map, List.length_map, zl])]
  walk_at "gg"
  refine g_lstK cu dm (ds := []) (xs := []) .nil (by decide) (fun v3 H1 s1 is3 => ?_)
  walk_at "gg"
  have is21 := is2.mono (same_hol s1)
  refine g_inD (n := 4) (m := 5) cu is3 is21 (Cmp.lst cmp_S []) (cmp_SS sizes) (by decide) (by decide) ?_
  rw [no_empty Z.ne]
  walk_at "gg"
  clear is2
  refine for_map (src_zip_map (f := encG) (g := encRow) ‹Src _ _ _›) (fun j σ H' => ∃ (o2 o3 o4 o5 : Option V), σ = [some v, some v2, o2, o3, o4, o5] ∧ Same H1 H') ⟨none, none, none, none, rfl, Same.refl _⟩ (fun j σ H' p => ?_) (fun j a y σ H6 H7 ha p s67 isx => ?_) (fun σ H2 p => ?_)
  · obtain ⟨_, _, _, _, _, s6⟩ := p
    walk_at "ex"
  · obtain ⟨o2, o3, o4, o5, rfl, s6⟩ := p
    have dm6 := dm.mono (s1.trans s6)
    have isx := isx M dm6 (by walk_at "ex")
    have dm7 := dm6.mono s67
    have ha := List.getElem?_zip_eq_some.mp ha
    have wid := Z.wid j a.1 a.2 ha.1 ha.2
    walk_at "g"
    rename_i xs hxs
    obtain ⟨w1, rr, rfl, j1, hrr⟩ := hxs.cons_inv
    obtain ⟨w2, rr, rfl, j2, hrr⟩ := hrr.cons_inv
    obtain rfl := hrr.nil_inv
    walk_at "gg"
    unfold b2_check_sizes
    walk_at "gg"
    refine for_map ‹Src _ _ (a.2.map encS)› (fun j σ H' => ∃ (o4 o5 : Option V), σ = [some v, some v2, some w1, some w2, o4, o5] ∧ Same H7 H') ⟨_, _, rfl, Same.refl _⟩ (fun j σ H' p => ?_) (fun j e y σ H8 H9 he p s89 isy => ?_) (fun σ H2 p => ?_)
    · obtain ⟨_, _, _, s6⟩ := p
      walk_at "ex"
    · obtain ⟨o4, o5, rfl, s8⟩ := p
      have dm8 := dm7.mono s8
      have isy := isy M dm8 (by walk_at "ex")
      have dm9 := dm8.mono s89
      walk_at "g"
      rename_i xs hxs
      obtain ⟨w3, rr, rfl, j3, hrr⟩ := hxs.cons_inv
      obtain ⟨w4, rr, rfl, j4, hrr⟩ := hrr.cons_inv
      obtain rfl := hrr.nil_inv
      walk_at "gg"
      unfold b1_check_sizes
      walk_at "gg"
      refine g_ne rfl ?_
      rw [decide_eq_true (by rw [List.length_map, List.length_map, wid e (List.mem_of_getElem? he)])]
      walk_at "gg"
      exact ⟨_, _, rfl, s8.trans s89⟩
    · obtain ⟨o4, o5, rfl, s8⟩ := p
      exact ⟨_, _, _, _, rfl, (s6.trans s67).trans s8⟩
  · obtain ⟨o2, o3, o4, o5, rfl, s6⟩ := p
    exact k _ _ _ rfl (s1.trans s6) Is.non
theorem ok_check_sizes {P : Program} {w : World} {K : PySem.W.Frag} {mg : Str → Option Value} {base : Heap} {f : Addr} {fd : FuncData} (F : Fun K "check_sizes" "check_sizes" s_check_sizes f fd) (T : Bl mg) : FnOk P w K mg base CX0 1 f fd ["circuit", "sizes"] spCheckSizes :=
  F.ok sc_check_sizes (fun vs H Q E h => SpF.len (n := 2) (fun _ => rfl) h) fun cdv A outer s H vs Q E hr h => ⟨_, dv_check_sizes T hr, r_check_sizes h⟩
def spCheckValues : Sp := SpF (fun s : List (List Size) => [encSS s]) (fun sizes => (∀ r ∈ sizes, ∀ s ∈ r, 0 ≤ s.1) ∧ ∀ r ∈ sizes, ∀ s ∈ r, ∀ p ∈ s.2, 0 ≤ p.1 ∧ p.1 + 2 ≤ p.2) fun p d => d = .none
theorem r_check_values {K : PySem.W.Frag} {vs : List V} {H : Hp} {Q : VK} {E : XK} {b c : L2.St → Hp → Prop} (h : spCheckValues vs H Q E) : rd_check_values K spCheckDelay ⟨fun _ H' => Q .non H', Q, b, c⟩ (start N_check_values vs) H := by
  obtain ⟨M, sizes, dm, ⟨Z1, Z2⟩, hv, k⟩ := h
  obtain ⟨v2, r, rfl, is2, hr⟩ := hv.cons_inv
  obtain rfl := hr.nil_inv
  have cu := Sg.cur M
  show rd_check_values K _ _ [some v2, none, none, none, none, none, none] H
  unfold rd_check_values
  walk_at "gg"
  refine for_map (enc := encRow) ‹Src _ _ _› (fun j σ H' => ∃ (o1 o2 o3 o4 o5 o6 : Option V), σ = [some v2, o1, o2, o3, o4, o5, o6] ∧ Same H H') ⟨none, none, none, none, none, none, rfl, Same.refl _⟩ (fun j σ H' p => ?_) (fun j a y σ H6 H7 ha p s67 isx => ?_) (fun σ H2 p => ?_)
  · obtain ⟨_, _, _, _, _, _, _, s6⟩ := p
    walk_at "ex"
  · obtain ⟨o1, o2, o3, o4, o5, o6, rfl, s6⟩ := p
    have dm6 := dm.mono s6
    have isx := isx M dm6 (by walk_at "ex")
    have dm7 := dm6.mono s67
    walk_at "gg"
    unfold b2_check_values
    walk_at "gg"
    refine for_map ‹Src _ _ (a.map encS)› (fun j σ H' => ∃ (o2 o3 o4 o5 o6 : Option V), σ = [some v2, some y, o2, o3, o4, o5, o6] ∧ Same H7 H') ⟨_, _, _, _, _, rfl, Same.refl _⟩ (fun j σ H' p => ?_) (fun j e y σ H8 H9 he p s89 isy => ?_) (fun σ H2 p => ?_)
    · obtain ⟨_, _, _, _, _, _, s6⟩ := p
      walk_at "ex"
    · obtain ⟨o2, o3, o4, o5, o6, rfl, s8⟩ := p
      have dm8 := dm7.mono s8
      have isy := isy M dm8 (by walk_at "ex")
      have dm9 := dm8.mono s89
      have z := Z1 a (List.mem_of_getElem? ha) e (List.mem_of_getElem? he)
      walk_at "g"
      rename_i xs hxs
      obtain ⟨w3, rr, rfl, j3, hrr⟩ := hxs.cons_inv
      obtain ⟨w4, rr, rfl, j4, hrr⟩ := hrr.cons_inv
      obtain rfl := hrr.nil_inv
      obtain rfl := j3.int_inv
      walk_at "gg"
      unfold b1_check_values
      walk_at "gg"
      rw [decide_eq_false (by omega)]
      walk_at "gg"
      exact ⟨_, _, _, _, _, rfl, s8.trans s89⟩
    · obtain ⟨o2, o3, o4, o5, o6, rfl, s8⟩ := p
      exact ⟨_, _, _, _, _, _, rfl, (s6.trans s67).trans s8⟩
  obtain ⟨o1, o2, o3, o4, o5, o6, rfl, s2⟩ := p
  have is22 := is2.mono (same_hol s2)
  have dm2 := dm.mono s2
  clear is2
  walk_at "gg"
  refine for_map (enc := encRow) ‹Src _ (hol M H2) _› (fun j σ H' => ∃ (o1 o2 o3 o4 o5 o6 : Option V), σ = [some v2, o1, o2, o3, o4, o5, o6] ∧ Same H2 H') ⟨_, _, _, _, _, _, rfl, Same.refl _⟩ (fun j σ H' p => ?_) (fun j a y σ H6 H7 ha p s67 isx => ?_) (fun σ H3 p => ?_)
  · obtain ⟨_, _, _, _, _, _, _, s6⟩ := p
    walk_at "ex"
  · obtain ⟨o1, o2, o3, o4, o5, o6, rfl, s6⟩ := p
    have dm6 := dm2.mono s6
    have isx := isx M dm6 (by walk_at "ex")
    have dm7 := dm6.mono s67
    walk_at "gg"
    unfold b5_check_values
    walk_at "gg"
    refine for_map ‹Src _ _ (a.map encS)› (fun j σ H' => ∃ (o2 o3 o4 o5 o6 : Option V), σ = [some v2, some y, o2, o3, o4, o5, o6] ∧ Same H7 H') ⟨_, _, _, _, _, rfl, Same.refl _⟩ (fun j σ H' p => ?_) (fun j e y σ H8 H9 he p s89 isy => ?_) (fun σ H2 p => ?_)
    · obtain ⟨_, _, _, _, _, _, s6⟩ := p
      walk_at "ex"
    · obtain ⟨o2, o3, o4, o5, o6, rfl, s8⟩ := p
      have dm8 := dm7.mono s8
      have isy := isy M dm8 (by walk_at "ex")
      have dm9 := dm8.mono s89
      have z := Z2 a (List.mem_of_getElem? ha) e (List.mem_of_getElem? he)
      walk_at "g"
      rename_i xs hxs
      obtain ⟨w3, rr, rfl, j3, hrr⟩ := hxs.cons_inv
      obtain ⟨w4, rr, rfl, j4, hrr⟩ := hrr.cons_inv
      obtain rfl := hrr.nil_inv
      obtain rfl := j3.int_inv
      walk_at "gg"
      unfold b4_check_values
      walk_at "gg"
      refine for_map ‹Src _ _ (e.2.map encP)› (fun j σ H' => ∃ (o5 o6 : Option V), σ = [some v2, _, o2, _, _, o5, o6] ∧ Same H9 H') ⟨_, _, rfl, Same.refl _⟩ (fun j σ H' p => ?_) (fun j q y σ H10 H11 hq p s11 isz => ?_) (fun σ H2 p => ?_)
      · obtain ⟨_, _, _, s6⟩ := p
        walk_at "ex"
      · obtain ⟨o5, o6, rfl, s10⟩ := p
        have dm10 := dm9.mono s10
        have isz := isz M dm10 (by walk_at "ex")
        have dm11 := dm10.mono s11
        have z := z q (List.mem_of_getElem? hq)
        walk_at "g"
        rename_i xs hxs
        obtain ⟨w5, rr, rfl, j5, hrr⟩ := hxs.cons_inv
        obtain ⟨w6, rr, rfl, j6, hrr⟩ := hrr.cons_inv
        obtain rfl := hrr.nil_inv
        obtain rfl := j5.int_inv
        obtain rfl := j6.int_inv
        walk_at "gg"
        unfold b3_check_values
        walk_at "gg"
        refine g_SpF cu q (by walk_at "dom") (by walk_at "isa") z (fun d v H12 hd s12 _ => ?_)
        exact ⟨_, _, rfl, (s10.trans s11).trans s12⟩
      · obtain ⟨o5, o6, rfl, s10⟩ := p
        exact ⟨_, _, _, _, _, rfl, (s8.trans s89).trans s10⟩
    · obtain ⟨o2, o3, o4, o5, o6, rfl, s8⟩ := p
      exact ⟨_, _, _, _, _, _, rfl, (s6.trans s67).trans s8⟩
  · obtain ⟨o1, o2, o3, o4, o5, o6, rfl, s3⟩ := p
    exact k _ _ _ rfl (s2.trans s3) Is.non
theorem ok_check_values {P : Program} {w : World} {K : PySem.W.Frag} {mg : Str → Option Value} {base : Heap} {f : Addr} {fd : FuncData} (F : Fun K "check_values" "check_values" s_check_values f fd) (T : Bl mg) (c1 : Cal P w K mg base 1 "check_delay" spCheckDelay) : FnOk P w K mg base CX0 2 f fd ["sizes"] spCheckValues :=
  F.ok sc_check_values (fun vs H Q E h => SpF.len (n := 1) (fun _ => rfl) h) fun cdv A outer s H vs Q E hr h => ⟨_, dv_check_values T c1 hr, r_check_values h⟩
theorem ok_check_delay {P : Program} {w : World} {K : PySem.W.Frag} {mg : Str → Option Value} {base : Heap} {f : Addr} {fd : FuncData} (F : Fun K "check_delay" "check_delay" s_check_delay f fd) (T : Bl mg) : FnOk P w K mg base CX0 1 f fd ["low", "high"] spCheckDelay :=
  F.ok sc_check_delay (fun vs H Q E h => SpF.len (n := 2) (fun _ => rfl) h) fun cdv A outer s H vs Q E hr h => ⟨_, dv_check_delay T hr, r_check_delay h⟩
theorem ok_check_start {P : Program} {w : World} {K : PySem.W.Frag} {mg : Str → Option Value} {base : Heap} {f : Addr} {fd : FuncData} (F : Fun K "check_start" "check_start" s_check_start f fd) (T : Bl mg) : FnOk P w K mg base CX0 1 f fd ["early", "late"] spCheckStart :=
  F.ok sc_check_start (fun vs H Q E h => SpF.len (n := 2) (fun _ => rfl) h) fun cdv A outer s H vs Q E hr h => ⟨_, dv_check_start T hr, r_check_start h⟩
theorem ok_with_ranges {P : Program} {w : World} {K : PySem.W.Frag} {mg : Str → Option Value} {base : Heap} {f : Addr} {fd : FuncData} (F : Fun K "with_ranges" "with_ranges" s_with_ranges f fd) (T : Bl mg) : FnOk P w K mg base CX0 1 f fd ["circuit", "ranges"] spWithRanges :=
  F.ok sc_with_ranges (fun vs H Q E h => SpF.len (n := 2) (fun _ => rfl) h) fun cdv A outer s H vs Q E hr h => ⟨_, dv_with_ranges T hr, r_with_ranges h⟩
theorem ok_chosen_ranges {P : Program} {w : World} {K : PySem.W.Frag} {mg : Str → Option Value} {base : Heap} {f : Addr} {fd : FuncData} (F : Fun K "chosen_ranges" "chosen_ranges" s_chosen_ranges f fd) (T : Bl mg) : FnOk P w K mg base CX0 1 f fd ["sizes", "choice"] spChosenRanges :=
  F.ok sc_chosen_ranges (fun vs H Q E h => SpF.len (n := 2) (fun _ => rfl) h) fun cdv A outer s H vs Q E hr h => ⟨_, dv_chosen_ranges T hr, r_chosen_ranges h⟩
theorem ok_total_cost {P : Program} {w : World} {K : PySem.W.Frag} {mg : Str → Option Value} {base : Heap} {f : Addr} {fd : FuncData} (F : Fun K "total_cost" "total_cost" s_total_cost f fd) (T : Bl mg) : FnOk P w K mg base CX0 1 f fd ["sizes", "choice"] spTotalCost :=
  F.ok sc_total_cost (fun vs H Q E h => SpF.len (n := 2) (fun _ => rfl) h) fun cdv A outer s H vs Q E hr h => ⟨_, dv_total_cost T hr, r_total_cost h⟩

end Sg
namespace Sg
open PySem PySem.Spec PyProof.Rows L2
section
variable {P : Program} {w : World} {K : PySem.W.Frag} {mg : Str → Option Value} {base : Heap}
abbrev s_Search_try_all : Stmt := inClass (top 27) 3
abbrev N_Search_try_all : List Str := ["self", "waiting", "choice", "least", "k"]
theorem sc_Search_try_all : FnScope N_Search_try_all ["self"] (defScope s_Search_try_all) := ⟨rfl, rfl, rfl, by decide +kernel, rfl, by decide +kernel, by decide +kernel⟩
def b1_Search_try_all (K : PySem.W.Frag) (CSearch : Addr) (sp_Search_can_meet : Sp) (sp_Search_is_useless : Sp) (sp_total_cost : Sp) : TS :=
    (tIfS (tNot (tB (tMeth CSearch "is_useless" sp_Search_is_useless [] E0 (tVar 0) (tCons (tCB (rLenQ K) (tCons (tVar 2) tNil)) (tCons (tVar 4) tNil))))) (tDrop (tBM K "list" rAppend (tVar 1) (tCons (tOp rCat (tVar 2) (tLst (tCons (tVar 4) tNil))) tNil))) tNext)
def b2_Search_try_all (K : PySem.W.Frag) (CSearch : Addr) (sp_Search_can_meet : Sp) (sp_Search_is_useless : Sp) (sp_total_cost : Sp) : TS :=
    (tSeq (tAsg (tBM0 K "list" rPop (tVar 1)) (gName 2))
    (tSeq (tAsg (tOp (rI0 fun i j => .int (i + j)) (tCall sp_total_cost [] E0 (tCons (tFld K (tVar 0) "sizes") (tCons (tVar 2) tNil))) (tCB (rSum K) (tCons (tSl (rSlL K) (tFld K (tVar 0) "cheap") (tPart (tCB (rLenQ K) (tCons (tVar 2) tNil))) tNoPart) tNil))) (gName 3))
    (tIfS (tAnd (tOr (tB (tIsN (tFld K (tVar 0) "best"))) (tTest (tOp (rI0 fun i j => .bl (decide (i < j))) (tVar 3) (tOp (rIxT K) (tFld K (tVar 0) "best") (tC (.int 0)))))) (tB (tMeth CSearch "can_meet" sp_Search_can_meet [] E0 (tVar 0) (tCons (tVar 2) tNil)))) (tIfS (tTest (tOp rEq (tCB (rLenQ K) (tCons (tVar 2) tNil)) (tCB (rLenQ K) (tCons (tFld K (tVar 0) "sizes") tNil)))) (sFld K (tVar 0) (tTup (tCons (tVar 3) (tCons (tVar 2) tNil))) "best") (tFor (iRng3 (tCons (tOp (rI0 fun i j => .int (i - j)) (tCB (rLenQ K) (tCons (tOp (rIxL K) (tFld K (tVar 0) "sizes") (tCB (rLenQ K) (tCons (tVar 2) tNil))) tNil)) (tC (.int 1))) (tCons (tUn (rU fun i => .int (-i)) (tC (.int 1))) (tCons (tUn (rU fun i => .int (-i)) (tC (.int 1))) tNil)))) (gName 4) (b1_Search_try_all K CSearch sp_Search_can_meet sp_Search_is_useless sp_total_cost))) tNext)))
def rd_Search_try_all (K : PySem.W.Frag) (CSearch : Addr) (sp_Search_can_meet : Sp) (sp_Search_is_useless : Sp) (sp_total_cost : Sp) : TS :=
    (tSeq (tAsg (tLst (tCons (tLst tNil) tNil)) (gName 1))
    (tWhile (tTru K (tVar 1)) (b2_Search_try_all K CSearch sp_Search_can_meet sp_Search_is_useless sp_total_cost)))
theorem dv_Search_try_all {CSearch : Addr} {sp_Search_can_meet : Sp} {sp_Search_is_useless : Sp} {sp_total_cost : Sp} (T : Bl mg) (c_Search_can_meet : Met P w K mg base 5 CSearch "can_meet" sp_Search_can_meet) (c_Search_is_useless : Met P w K mg base 1 CSearch "is_useless" sp_Search_is_useless) (c_total_cost : Cal P w K mg base 1 "total_cost" sp_total_cost) {f : Addr} {cdv : Value} {A : Around} {outer : List Env} {s : Shared} {H : Hp} {E : XK} (hr : Room 5 (A.deeper (envOfC "Search.try_all" (defScope s_Search_try_all) s.heap.objs.size f cdv))) :
    PSs (cxOf CX0 P w K mg base N_Search_try_all "Search.try_all" (defScope s_Search_try_all) f cdv A outer s H E).nox (defBody s_Search_try_all) (rd_Search_try_all K CSearch sp_Search_can_meet sp_Search_is_useless sp_total_cost) :=
  (pss_cons (ps_set (i := 1) sc_Search_try_all.nd rfl (by first | exact Or.inl rfl | exact Or.inr rfl) (pe_lst (pa_cons (pe_lst pa_nil) pa_nil)))
    (pss_one (ps_while PassesOwn.never (pt_tru (pv 1)) (pss_cons (ps_set (i := 2) sc_Search_try_all.nd rfl (by first | exact Or.inl rfl | exact Or.inr rfl) (pe_bm0 PySem.F.plainAttrs_list PySem.F.slot_list_pop PySem.F.type_list_pop mt_pop (pv 1)))
    (pss_cons (ps_set (i := 3) sc_Search_try_all.nd rfl (by first | exact Or.inl rfl | exact Or.inr rfl) (pe_op op_add (pe_cl c_total_cost hr (by decide) (by rfl) (pa_cons (pe_fld (pv 0) rfl) (pa_cons (pv 2) pa_nil))) (pe_callB (cr_sum rfl) (by rfl) T.sum (by decide +kernel) (pa_cons (pe_slice sl_list (pe_fld (pv 0) rfl) (po_some (pe_callB cr_len (by rfl) T.len (by decide +kernel) (pa_cons (pv 2) pa_nil))) po_none) pa_nil))))
    (pss_one (ps_if (PW.pt (pw_and (PW.pt (pw_or (pt_cmp (pc_isN (pe_fld (pv 0) rfl))) (pw_or1 (pt_cmpR op_lt (pv 3) (pe_ix ix_tup (pe_fld (pv 0) rfl) pe_int (fun _ _ => rfl)) (nomark _))))) (pw_and1 (pt_val (pe_mt c_Search_can_meet hr (by decide) (pv 0) (pa_cons (pv 2) pa_nil)))))) (pss_one (ps_if (pt_cmpR op_eq (pe_callB cr_len (by rfl) T.len (by decide +kernel) (pa_cons (pv 2) pa_nil)) (pe_callB cr_len (by rfl) T.len (by decide +kernel) (pa_cons (pe_fld (pv 0) rfl) pa_nil)) (nomark _)) (pss_one (ps_fld (pv 0) (pe_tup (pa_cons (pv 3) (pa_cons (pv 2) pa_nil))) rfl)) (pss_one (ps_for PassesOwn.never rfl (pi_range3 (by rfl) T.range (pa_cons (pe_op op_sub (pe_callB cr_len (by rfl) T.len (by decide +kernel) (pa_cons (pe_ix ix_list (pe_fld (pv 0) rfl) (pe_callB cr_len (by rfl) T.len (by decide +kernel) (pa_cons (pv 2) pa_nil)) (fun _ _ => rfl)) pa_nil)) pe_int) (pa_cons (pe_un un_neg pe_int) (pa_cons (pe_un un_neg pe_int) pa_nil)))) (pg_name (i := 4) sc_Search_try_all.nd rfl (by first | exact Or.inl rfl | exact Or.inr rfl)) (pss_one (ps_if (pt_not (pt_val (pe_mt c_Search_is_useless hr (by decide) (pv 0) (pa_cons (pe_callB cr_len (by rfl) T.len (by decide +kernel) (pa_cons (pv 2) pa_nil)) (pa_cons (pv 4) pa_nil))))) (pss_one (ps_expr (pe_bm PySem.F.plainAttrs_list PySem.F.slot_list_append PySem.F.type_list_append mt_append (pv 1) (pa_cons (pe_op op_cat (pv 2) (pe_lst (pa_cons (pv 4) pa_nil))) pa_nil)))) pss_nil)))))) pss_nil)))))))
abbrev s_Search_is_useless : Stmt := inClass (top 27) 4
abbrev N_Search_is_useless : List Str := ["self", "gate", "k", "highs", "cost", "ranges", "j", "same", "other_cost", "other", "_", "high"]
theorem sc_Search_is_useless : FnScope N_Search_is_useless ["self", "gate", "k"] (defScope s_Search_is_useless) := ⟨rfl, rfl, rfl, by decide +kernel, rfl, by decide +kernel, by decide +kernel⟩
def b1_Search_is_useless (K : PySem.W.Frag) : TS :=
    (tSeq (tAsg (tOp (rEqD K) (tLc (iTup K (tVar 9)) (gTup K 2 (gCons (gName 10) (gCons (gName 11) gNil))) tYes (tVar 11) [10, 11]) (tVar 3)) (gName 7))
    (tIfS (tAnd (tB (tVar 7)) (tOr (tTest (tOp (rI0 fun i j => .bl (decide (i < j))) (tVar 8) (tVar 4))) (tAnd (tTest (tOp rEq (tVar 8) (tVar 4))) (tTest (tOp (rI0 fun i j => .bl (decide (i < j))) (tVar 6) (tVar 2)))))) (tRet (tC (.bl true))) tNext))
def rd_Search_is_useless (K : PySem.W.Frag) : TS :=
    (tSeq (tAsg (tOp (rIxL K) (tOp (rIxL K) (tFld K (tVar 0) "sizes") (tVar 1)) (tVar 2)) (gTup K 2 (gCons (gName 4) (gCons (gName 5) gNil))))
    (tSeq (tAsg (tLc (iTup K (tVar 5)) (gTup K 2 (gCons (gName 10) (gCons (gName 11) gNil))) tYes (tVar 11) [10, 11]) (gName 3))
    (tSeq (tFor (iEnum K (tCons (tOp (rIxL K) (tFld K (tVar 0) "sizes") (tVar 1)) tNil)) (gTup K 2 (gCons (gName 6) (gCons (gTup K 2 (gCons (gName 8) (gCons (gName 9) gNil))) gNil))) (b1_Search_is_useless K))
    (tRet (tC (.bl false))))))
theorem dv_Search_is_useless  (T : Bl mg)  {f : Addr} {cdv : Value} {A : Around} {outer : List Env} {s : Shared} {H : Hp} {E : XK} (hr : Room 0 (A.deeper (envOfC "Search.is_useless" (defScope s_Search_is_useless) s.heap.objs.size f cdv))) :
    PSs (cxOf CX0 P w K mg base N_Search_is_useless "Search.is_useless" (defScope s_Search_is_useless) f cdv A outer s H E).nox (defBody s_Search_is_useless) (rd_Search_is_useless K) :=
  (pss_cons (ps_asg (pe_ix ix_list (pe_ix ix_list (pe_fld (pv 0) rfl) (pv 1) (fun _ _ => rfl)) (pv 2) (fun _ _ => rfl)) (pg_tup rfl (pgs_cons (pg_name (i := 4) sc_Search_is_useless.nd rfl (by first | exact Or.inl rfl | exact Or.inr rfl)) (pgs_cons (pg_name (i := 5) sc_Search_is_useless.nd rfl (by first | exact Or.inl rfl | exact Or.inr rfl)) pgs_nil))))
    (pss_cons (ps_setLc (i := 3) (own := [("_", 10), ("high", 11)]) rfl sc_Search_is_useless.nd rfl rfl (sw_true rfl rfl rfl (by decide +kernel)) (pi_tup (pv 5)) (blkOk_by (own := [("_", 10), ("high", 11)]) (N := N_Search_is_useless) (sc := (defScope s_Search_is_useless)) (by decide +kernel)) (fun _ _ _ _ _ => (pg_tup rfl (pgs_cons (pg_name (i := 10) sc_Search_is_useless.nd rfl (by first | exact Or.inl rfl | exact Or.inr rfl)) (pgs_cons (pg_name (i := 11) sc_Search_is_useless.nd rfl (by first | exact Or.inl rfl | exact Or.inr rfl)) pgs_nil)))) (fun _ _ _ _ _ => pts_nil) (fun _ _ _ _ _ => (pv 11)))
    (pss_cons (ps_for PassesOwn.never rfl (pi_enum (by rfl) T.enumerate (pa_cons (pe_ix ix_list (pe_fld (pv 0) rfl) (pv 1) (fun _ _ => rfl)) pa_nil)) (pg_tup rfl (pgs_cons (pg_name (i := 6) sc_Search_is_useless.nd rfl (by first | exact Or.inl rfl | exact Or.inr rfl)) (pgs_cons (pg_tup rfl (pgs_cons (pg_name (i := 8) sc_Search_is_useless.nd rfl (by first | exact Or.inl rfl | exact Or.inr rfl)) (pgs_cons (pg_name (i := 9) sc_Search_is_useless.nd rfl (by first | exact Or.inl rfl | exact Or.inr rfl)) pgs_nil))) pgs_nil))) (pss_cons (ps_set (i := 7) sc_Search_is_useless.nd rfl (by first | exact Or.inl rfl | exact Or.inr rfl) (pe_cmpR (op_eqD hr.units) (pe_lc (own := [("_", 10), ("high", 11)]) rfl sc_Search_is_useless.nd (pi_tup (pv 9)) (blkOk_by (own := [("_", 10), ("high", 11)]) (N := N_Search_is_useless) (sc := (defScope s_Search_is_useless)) (by decide +kernel)) (fun _ _ _ _ _ => (pg_tup rfl (pgs_cons (pg_name (i := 10) sc_Search_is_useless.nd rfl (by first | exact Or.inl rfl | exact Or.inr rfl)) (pgs_cons (pg_name (i := 11) sc_Search_is_useless.nd rfl (by first | exact Or.inl rfl | exact Or.inr rfl)) pgs_nil)))) (fun _ _ _ _ _ => pts_nil) (fun _ _ _ _ _ => (pv 11))) (pv 3) (nomark _)))
    (pss_one (ps_if (PW.pt (pw_and (pt_val (pv 7)) (pw_and1 (PW.pt (pw_or (pt_cmpR op_lt (pv 8) (pv 4) (nomark _)) (pw_or1 (PW.pt (pw_and (pt_cmpR op_eq (pv 8) (pv 4) (nomark _)) (pw_and1 (pt_cmpR op_lt (pv 6) (pv 2) (nomark _))))))))))) (pss_one (ps_ret pe_bl)) pss_nil))))
    (pss_one (ps_ret pe_bl)))))
abbrev s_cheapest : Stmt := top 28
abbrev N_cheapest : List Str := ["circuit", "starts", "limits", "sizes", "net", "search"]
theorem sc_cheapest : FnScope N_cheapest ["circuit", "starts", "limits", "sizes"] (defScope s_cheapest) := ⟨rfl, rfl, rfl, by decide +kernel, rfl, by decide +kernel, by decide +kernel⟩
def b1_cheapest (K : PySem.W.Frag) (CArrivals : Addr) (CSearch : Addr) (sp_Arrivals_init : Sp) (sp_Search_init : Sp) (sp_Search_try_all : Sp) (sp_check_net : Sp) (sp_check_sizes : Sp) (sp_check_values : Sp) : TS :=
    (tDrop (tCall sp_check_net [] E0 (tCons (tVar 0) (tCons (tVar 4) tNil))))
def rd_cheapest (K : PySem.W.Frag) (CArrivals : Addr) (CSearch : Addr) (sp_Arrivals_init : Sp) (sp_Search_init : Sp) (sp_Search_try_all : Sp) (sp_check_net : Sp) (sp_check_sizes : Sp) (sp_check_values : Sp) : TS :=
    (tSeq (tDrop (tCall sp_check_sizes [] E0 (tCons (tVar 0) (tCons (tVar 3) tNil))))
    (tSeq (tDrop (tCall sp_check_values [] E0 (tCons (tVar 3) tNil)))
    (tSeq (tLock (tFor (iKeys (tVar 2)) (gName 4) (b1_cheapest K CArrivals CSearch sp_Arrivals_init sp_Search_init sp_Search_try_all sp_check_net sp_check_sizes sp_check_values)))
    (tSeq (tDrop (tMake CArrivals sp_Arrivals_init [] E0 (tCons (tVar 0) (tCons (tVar 1) tNil))))
    (tSeq (tAsg (tMake CSearch sp_Search_init [] E0 (tCons (tVar 0) (tCons (tVar 1) (tCons (tVar 2) (tCons (tVar 3) tNil))))) (gName 5))
    (tSeq (tDrop (tMeth CSearch "try_all" sp_Search_try_all [] E0 (tVar 5) tNil))
    (tRet (tFld K (tVar 5) "best"))))))))
theorem dv_cheapest {CArrivals : Addr} {CSearch : Addr} {sp_Arrivals_init : Sp} {sp_Search_init : Sp} {sp_Search_try_all : Sp} {sp_check_net : Sp} {sp_check_sizes : Sp} {sp_check_values : Sp} (T : Bl mg) (c_Arrivals_init : Mak P w K mg base 3 "Arrivals" CArrivals sp_Arrivals_init) (c_Search_init : Mak P w K mg base 2 "Search" CSearch sp_Search_init) (c_Search_try_all : Met P w K mg base 6 CSearch "try_all" sp_Search_try_all) (c_check_net : Cal P w K mg base 3 "check_net" sp_check_net) (c_check_sizes : Cal P w K mg base 1 "check_sizes" sp_check_sizes) (c_check_values : Cal P w K mg base 2 "check_values" sp_check_values) {f : Addr} {cdv : Value} {A : Around} {outer : List Env} {s : Shared} {H : Hp} {E : XK} (hr : Room 6 (A.deeper (envOfC "cheapest" (defScope s_cheapest) s.heap.objs.size f cdv))) :
    PSs (cxOf CX0 P w K mg base N_cheapest "cheapest" (defScope s_cheapest) f cdv A outer s H E).nox (defBody s_cheapest) (rd_cheapest K CArrivals CSearch sp_Arrivals_init sp_Search_init sp_Search_try_all sp_check_net sp_check_sizes sp_check_values) :=
  (pss_cons (ps_expr (pe_cl c_check_sizes hr (by decide) (by rfl) (pa_cons (pv 0) (pa_cons (pv 3) pa_nil))))
    (pss_cons (ps_expr (pe_cl c_check_values hr (by decide) (by rfl) (pa_cons (pv 3) pa_nil)))
    (pss_cons (ps_lock (ps_for PassesOwn.never rfl (pi_keys (pv 2)) (pg_name (i := 4) sc_cheapest.nd rfl (by first | exact Or.inl rfl | exact Or.inr rfl)) (pss_one (ps_expr (pe_cl c_check_net hr (by decide) (by rfl) (pa_cons (pv 0) (pa_cons (pv 4) pa_nil)))))))
    (pss_cons (ps_expr (pe_mk c_Arrivals_init hr (by decide) (by rfl) (pa_cons (pv 0) (pa_cons (pv 1) pa_nil))))
    (pss_cons (ps_set (i := 5) sc_cheapest.nd rfl (by first | exact Or.inl rfl | exact Or.inr rfl) (pe_mk c_Search_init hr (by decide) (by rfl) (pa_cons (pv 0) (pa_cons (pv 1) (pa_cons (pv 2) (pa_cons (pv 3) pa_nil))))))
    (pss_cons (ps_expr (pe_mt0 c_Search_try_all hr (by decide) (pv 5)))
    (pss_one (ps_ret (pe_fld (pv 5) rfl)))))))))
end
end Sg
namespace Sg
open PySem PySem.Spec PyProof.Rows L2
section
variable {K : PySem.W.Frag} {H : Hp} {Q : VK} {x y v : V} {M : List Addr} {ds es : List PyData} {R : It → Hp → Prop} {σ : L2.St} {tA : TA}
theorem g_slD {k : Nat} (cu : Cur M) (dm : Dom M H) (h : Is (hol M H) (.list ds) x) (hk : k ≤ ds.length) (q : ∀ v H', Same H H' → Is (hol M H') (.list (ds.drop k)) v → Q v H') : rSlL K x (some (k : Int)) none H Q := by
  obtain ⟨a, xs, rfl, h1, h2⟩ := h.lst_inv
  refine ⟨a, xs, rfl, .inl (.inl (hol_le _ _ h1)), fun p hp => q _ _ (Same.new hp) ?_⟩
  have e : cutV xs (some (k : Int)) none = xs.drop k := by
    unfold cutV
    rw [HT.sIx_nat, HT.sIx_none, h2.len, Nat.min_eq_left hk]
    exact List.take_of_length_le (by rw [List.length_drop, h2.len]; exact Nat.le_refl _)
  rw [e]
  exact new_lst dm (h2.drop k) hp
theorem g_rngN {i : Int} (k : ∀ a H', Same H H' → H' a = some (.rng 0 i) → Q (.ref a) H') : rRngQ [.int i] H Q := ⟨i, rfl, fun p hp => k p _ (Same.new hp) upd_same⟩
def Rng3W (vs : List V) (H1 : Hp) (R : It → Hp → Prop) : Prop := ∃ (i j c : Int) (n : Nat), vs = [.int i, .int j, .int c] ∧ RgC i j c n ∧ R (Itc i c n) H1
theorem w_rng3 (k : tA σ H fun vs H1 => Rng3W vs H1 R) : iRng3 tA σ H R := k
theorem w_down {n : Nat} {j : Int} (e : j = (n : Int) - 1) (hn : n < 1000000) (k : R (Itc ((n : Int) - 1) (-1) n) H) : Rng3W [.int j, .int (-1), .int (-1)] H R := by
  subst e
  refine ⟨_, _, _, _, rfl, RgC.neg (by omega) (by omega) (by omega) (by omega), ?_⟩
  have : ((n : Int) - 1 - -1).toNat = n := by omega
  rw [this]
  exact k
end
theorem src_down {B : Hp} {n : Nat} : Src (Itc ((n : Int) - 1) (-1) n) B (((List.range n).map fun i => n - 1 - i).map fun i => PyData.int ((i : Nat) : Int)) := by
  have w := (walk_rangeC (lo := (n : Int) - 1) (c := -1) (n := n)).mono (G' := fun H => Same B H) (Y' := fun i H x H' => Same H H' ∧ ∀ d M, (((List.range n).map fun i => n - 1 - i).map fun i => PyData.int ((i : Nat) : Int))[i]? = some d → Dom M H → Same B (hol M H) → Is (hol M H') d x) (fun _ _ => trivial) fun i H x H' hi s y => by
    obtain ⟨e1, e2⟩ := y
    subst e1 e2
    refine ⟨Same.refl _, fun d M hd dm sb => ?_⟩
    rw [List.map_map, List.getElem?_map] at hd
    obtain ⟨p, hp, e⟩ := Option.map_eq_some_iff.mp hd
    obtain ⟨h1, h2⟩ := List.getElem?_eq_some_iff.mp hp
    rw [List.getElem_range] at h2
    subst h2
    rw [← e]
    show Is _ (.int (((n - 1 - i : Nat) : Nat) : Int)) (.int ((n : Int) - 1 + (i : Nat) * (-1)))
    have : (n : Int) - 1 + (i : Nat) * (-1) = ((n - 1 - i : Nat) : Int) := by omega
    rw [this]
    exact .int _
  unfold Src
  rw [List.length_map, List.length_map, List.length_range]
  exact w
def rowOf (r : List Size) : Row := r.map fun s => (s.1, s.2.map (·.2))
def rowsOf (sizes : List (List Size)) : List Row := sizes.map rowOf
theorem row_at {r : List Size} {k : Nat} {s : Size} (h : r[k]? = some s) : (rowOf r).cost k = s.1 ∧ (rowOf r).hi k = s.2.map (·.2) := by
  unfold Row.cost Row.hi rowOf
  rw [List.getD_eq_getElem?_getD, List.getElem?_map, h]
  exact ⟨rfl, rfl⟩
theorem row_getD {r : List Size} {k : Nat} (h : k < r.length) : (rowOf r).cost k = (r.getD k (0, [])).1 ∧ (rowOf r).hi k = (r.getD k (0, [])).2.map (·.2) := by
  refine row_at (s := r.getD k (0, [])) ?_
  rw [List.getD_eq_getElem?_getD, List.getElem?_eq_getElem h]
  rfl
theorem ChOk.of : ∀ {sizes : List (List Size)} {ch : List Nat}, Pre (rowsOf sizes) ch → ChOk sizes ch
  | [], [], _ => fun p h => by simp at h
  | [], _ :: _, h => h.elim
  | r :: rs, [], _ => fun p h => by simp at h
  | r :: rs, k :: ks, h => fun p hp => by
    rw [List.zip_cons_cons] at hp
    rcases List.mem_cons.mp hp with e | e
    · subst e
      have := h.1
      unfold rowOf at this
      rw [List.length_map] at this
      exact this
    · exact ChOk.of (sizes := rs) h.2 p e
theorem costR_eq : ∀ {sizes : List (List Size)} {ch : List Nat}, Pre (rowsOf sizes) ch → costR sizes ch = costOf (rowsOf sizes) ch
  | [], [], _ => rfl
  | [], _ :: _, h => h.elim
  | r :: rs, [], _ => rfl
  | r :: rs, k :: ks, h => by
    have ih := costR_eq (sizes := rs) h.2
    have hk : k < r.length := by
      have := h.1
      unfold rowOf at this
      rw [List.length_map] at this
      exact this
    unfold costR at ih ⊢
    rw [List.zip_cons_cons, List.map_cons, List.sum_cons, ih]
    show _ = (rowOf r).cost k + costOf (rowsOf rs) ks
    rw [(row_getD hk).1]
theorem chosenR_eq : ∀ {sizes : List (List Size)} {ch : List Nat}, Pre (rowsOf sizes) ch → (chosenR sizes ch).map (fun q => q.map (·.2)) = hiOf (rowsOf sizes) ch
  | [], [], _ => rfl
  | [], _ :: _, h => h.elim
  | r :: rs, [], _ => rfl
  | r :: rs, k :: ks, h => by
    have ih := chosenR_eq (sizes := rs) h.2
    have hk : k < r.length := by
      have := h.1
      unfold rowOf at this
      rw [List.length_map] at this
      exact this
    unfold chosenR at ih ⊢
    rw [List.zip_cons_cons, List.map_cons, List.map_cons, ih]
    show _ = (rowOf r).hi k :: hiOf (rowsOf rs) ks
    rw [(row_getD hk).2]
def minL : List Int → Int
  | [] => 0
  | [a] => a
  | a :: l => min a (minL l)
theorem minL_le : ∀ {l : List Int} {y : Int}, y ∈ l → minL l ≤ y
  | [], _, h => by simp at h
  | [a], y, h => by
    simp at h
    rw [h]
    exact Int.le_refl _
  | a :: b :: l, y, h => by
    show min a (minL (b :: l)) ≤ y
    rcases List.mem_cons.mp h with e | e
    · rw [e]; omega
    · have := minL_le e
      omega
theorem minL_mem : ∀ {l : List Int}, l ≠ [] → minL l ∈ l
  | [], h => absurd rfl h
  | [a], _ => by simp [minL]
  | a :: b :: l, _ => by
    have ih := minL_mem (l := b :: l) (by simp)
    show min a (minL (b :: l)) ∈ a :: b :: l
    by_cases h : a ≤ minL (b :: l)
    · rw [Int.min_eq_left h]; exact List.mem_cons_self
    · rw [Int.min_eq_right (by omega)]; exact List.mem_cons_of_mem _ ih
theorem minL_eq {l : List Int} {m : Int} (h : m ∈ l) (h2 : ∀ y, y ∈ l → m ≤ y) : m = minL l := by
  have ne : l ≠ [] := fun e => by rw [e] at h; simp at h
  exact Int.le_antisymm (h2 _ (minL_mem ne)) (minL_le h)
theorem LeL.of_get : ∀ {l m : List Int}, l.length = m.length → (∀ (i : Nat) a b, l[i]? = some a → m[i]? = some b → a ≤ b) → LeL l m
  | [], [], _, _ => trivial
  | [], _ :: _, h, _ => by simp at h
  | _ :: _, [], h, _ => by simp at h
  | a :: l, b :: m, h, k => ⟨k 0 a b rfl rfl, LeL.of_get (by simpa using h) fun i a b h1 h2 => k (i + 1) a b (by simpa using h1) (by simpa using h2)⟩
def colL (r : List Size) (pin : Nat) : List Int := r.map fun s => (s.2.getD pin (0, 0)).2
def quickR (r : List Size) : List (Int × Int) := (List.range (r.headD (0, [])).2.length).map fun pin => (0, minL (colL r pin))
def cheapR (r : List Size) : Int := minL (r.map (·.1))
theorem cheap_ok : ∀ {sizes : List (List Size)}, CheapOk (rowsOf sizes) (sizes.map cheapR)
  | [] => trivial
  | r :: rs => ⟨fun k hk => by
    have hk' : k < r.length := by
      unfold rowOf at hk
      rw [List.length_map] at hk
      exact hk
    rw [(row_at (List.getElem?_eq_getElem hk')).1]
    exact minL_le (List.mem_map.mpr ⟨_, List.getElem_mem hk', rfl⟩), cheap_ok (sizes := rs)⟩
theorem quick_one {r : List Size} {w : Nat} (hw : ∀ s ∈ r, s.2.length = w) {k : Nat} (hk : k < r.length) : LeL ((quickR r).map (·.2)) ((rowOf r).hi k) := by
  have hd : (r.headD (0, [])).2.length = w := by
    cases r with
    | nil => simp at hk
    | cons s r => exact hw s List.mem_cons_self
  rw [(row_at (List.getElem?_eq_getElem hk)).2]
  have wk := hw _ (List.getElem_mem hk)
  refine LeL.of_get ?_ fun i a b h1 h2 => ?_
  · unfold quickR
    rw [List.length_map, List.length_map, List.length_map, List.length_range, hd, wk]
  · unfold quickR at h1
    rw [List.map_map, List.getElem?_map] at h1
    obtain ⟨p, hp, e⟩ := Option.map_eq_some_iff.mp h1
    obtain ⟨h3, h4⟩ := List.getElem?_eq_some_iff.mp hp
    rw [List.getElem_range] at h4
    subst h4
    rw [← e]
    rw [List.getElem?_map] at h2
    obtain ⟨q, hq, e2⟩ := Option.map_eq_some_iff.mp h2
    rw [← e2]
    refine minL_le (List.mem_map.mpr ⟨r[k], List.getElem_mem hk, ?_⟩)
    show ((r[k]).2.getD i (0, 0)).2 = q.2
    rw [List.getD_eq_getElem?_getD, hq]
    rfl
theorem quick_ok : ∀ {sizes : List (List Size)} (hw : ∀ r ∈ sizes, ∃ w, ∀ s ∈ r, s.2.length = w), QuickOk (rowsOf sizes) ((sizes.map quickR).map fun q => q.map (·.2))
  | [], _ => trivial
  | r :: rs, hw => ⟨fun k hk => by
    have hk' : k < r.length := by
      unfold rowOf at hk
      rw [List.length_map] at hk
      exact hk
    obtain ⟨w, h⟩ := hw r List.mem_cons_self
    exact quick_one h hk', quick_ok (sizes := rs) fun r' hr => hw r' (List.mem_cons_of_mem _ hr)⟩
theorem wr_names {c : Circ} : ∀ {gs : List Gate} {rows : List (List (Int × Int))}, gs.length ≤ rows.length → ((gs.zip rows).map fun p => ({ p.1 with rngs := p.2 } : Gate)).map (fun g => (g.name, g.nets)) = gs.map fun g => (g.name, g.nets)
  | [], _, _ => by simp
  | g :: gs, [], h => by simp at h
  | g :: gs, r :: rows, h => by
    have ih := wr_names (c := c) (gs := gs) (rows := rows) (by simpa using h)
    simp only [List.zip_cons_cons, List.map_cons] at ih ⊢
    rw [ih]
theorem wr_gs {c : Circ} {rows : List (List (Int × Int))} (h : c.gates.length ≤ rows.length) : gsL (wr c rows) = gsL c := wr_names (c := c) h
theorem wr_hs : ∀ {gs : List Gate} {rows : List (List (Int × Int))}, gs.length = rows.length → ((gs.zip rows).map fun p => ({ p.1 with rngs := p.2 } : Gate)).map (fun g => g.rngs.map (·.2)) = rows.map fun q => q.map (·.2)
  | [], [], _ => rfl
  | [], _ :: _, h => by simp at h
  | _ :: _, [], h => by simp at h
  | g :: gs, r :: rs, h => by
    have ih := wr_hs (gs := gs) (rows := rs) (by simpa using h)
    simp only [List.zip_cons_cons, List.map_cons] at ih ⊢
    rw [ih]
theorem wr_hsL {c : Circ} {rows : List (List (Int × Int))} (h : c.gates.length = rows.length) : hsL (wr c rows) = rows.map fun q => q.map (·.2) := wr_hs h
theorem wr_nm {c : Circ} {rows : List (List (Int × Int))} (h : c.gates.length ≤ rows.length) : (wr c rows).gates.map (·.name) = c.gates.map (·.name) := by
  have := congrArg (List.map (·.1)) (wr_gs (c := c) h)
  unfold gsL at this
  rw [List.map_map, List.map_map] at this
  exact this
theorem wr_nets {c : Circ} {rows : List (List (Int × Int))} (h : c.gates.length ≤ rows.length) : nets (wr c rows) = nets c := by
  unfold nets
  rw [wr_nm h]
  rfl
theorem wr_sound {c : Circ} {rows : List (List (Int × Int))} (S : Sound c) (h : c.gates.length = rows.length) (hw : ∀ (i : Nat) g r, c.gates[i]? = some g → rows[i]? = some r → r.length = g.nets.length) : Sound (wr c rows) := by
  have le : c.gates.length ≤ rows.length := Nat.le_of_eq h
  have back : ∀ g ∈ (wr c rows).gates, ∃ g0 ∈ c.gates, g.name = g0.name ∧ g.nets = g0.nets ∧ g.rngs.length = g0.nets.length := fun g hg => by
    obtain ⟨p, hp, rfl⟩ := List.mem_map.mp hg
    obtain ⟨i, hi⟩ := List.getElem?_of_mem hp
    have hi := List.getElem?_zip_eq_some.mp hi
    exact ⟨p.1, List.mem_of_getElem? hi.1, rfl, rfl, hw i _ _ hi.1 hi.2⟩
  refine ⟨S.few, ?_, ?_, fun g hg => ?_, ?_⟩
  · have := congrArg List.length (wr_nm (c := c) le)
    rw [List.length_map, List.length_map] at this
    rw [this]
    exact S.few2
  · rw [wr_nets le]
    exact S.nd
  · obtain ⟨g0, h0, e1, e2, e3⟩ := back g hg
    have := S.pins g0 h0
    rw [e3, e2]
    exact ⟨rfl, this.2⟩
  · obtain ⟨r, hr⟩ := S.rank
    refine ⟨r, fun g hg n hn => ?_⟩
    obtain ⟨g0, h0, e1, e2, e3⟩ := back g hg
    rw [e2] at hn
    rw [e1, wr_nm le]
    exact hr g0 h0 n hn
theorem eqv_ints : ∀ l m : List Int, PyData.eqv (.list (l.map PyData.int)) (.list (m.map PyData.int)) = decide (l = m)
  | [], [] => by simp [PyData.eqv, PyData.eqvAll]
  | [], b :: m => by simp [PyData.eqv, PyData.eqvAll]
  | a :: l, [] => by simp [PyData.eqv, PyData.eqvAll]
  | a :: l, b :: m => by
    have ih := eqv_ints l m
    simp only [PyData.eqv, List.map_cons, PyData.eqvAll] at ih ⊢
    rw [ih]
    by_cases h : a = b
    · subst h
      simp
    · simp [h]
end Sg
namespace Sg
open PySem PySem.Spec PyProof.Rows L2
local macro_rules | `(tactic| walk_at "ey") => `(tactic| first
  | exact Same.refl _
  | exact hol_le
  | assumption
  | (refine Same.on ?r (same_hol (H := ?b) ?h); (case h => assumption); walk_at "ey")
  | (refine Same.on ?r (Upd.hol (l := ?l) (H := ?b) ?h ?m); (case h => assumption); (case m => simp); walk_at "ey")
  | (refine Same.on ?r (weak1 (p := ?p) (A := ?b) ?n ?h); (case h => assumption); (case n => simp); walk_at "ey")
  | (refine Same.on (B := ?b) ?r ?h; (case h => assumption); walk_at "ey")
  | (refine Same.on ?r (same1 (A := ?b) ?h); (case h => assumption); walk_at "ey")
  | (refine Same.on ?r (same2 (A := ?b) ?h); (case h => assumption); walk_at "ey"))
local macro_rules | `(tactic| walk_at "ex") => `(tactic| first
  | exact Same.refl _
  | exact hol_le
  | assumption
  | (refine Same.on ?r (same_hol (H := ?b) ?h); (case h => assumption); walk_at "ex")
  | (refine Same.on ?r (Upd.hol (l := ?l) (H := ?b) ?h ?m); (case h => assumption); (case m => simp); walk_at "ex")
  | (refine Same.on ?r (weak1 (p := ?p) (A := ?b) ?n ?h); (case h => assumption); (case n => simp); walk_at "ex")
  | (refine Same.on (B := ?b) ?r ?h; (case h => assumption); walk_at "ex")
  | (refine Same.on ?r (same1 (A := ?b) ?h); (case h => assumption); walk_at "ex")
  | (refine Same.on ?r (same2 (A := ?b) ?h); (case h => assumption); walk_at "ex")
  | (refine Same.on ?r (hol_le (M := ?m)); walk_at "ey"))
local macro_rules | `(tactic| walk_at "dom") => `(tactic| first
  | assumption
  | exact Dom.nil
  | (refine Dom.mono (H := ?b) ?h ?d; (case h => assumption); walk_at "dom")
  | (refine dom_draw (p := ?p) (l := ?l) (ns := ?ns) (A := ?b) ?h ?c ?d; (case h => assumption); (case c => assumption); walk_at "dom")
  | (refine Dom.cons (o := ?o) ?h ?d; (case h => assumption); walk_at "dom")
  | (refine Dom.holm (A := ?b) (N := ?n) ?h ?d; (case h => assumption); walk_at "dom")
  | (refine Upd.dom (l := ?l) (H := ?b) (o := ?o) ?h ?e ?d; (case h => assumption); (case e => assumption); walk_at "dom"))
local macro_rules | `(tactic| walk_at "pl") => `(tactic| first
  | assumption
  | (refine Pl.same (A := ?b) ?s ?h; (case s => assumption); walk_at "pl"))
local macro_rules | `(tactic| walk_at "is") => `(tactic| first
  | assumption
  | exact Is.int _
  | exact Is.str _
  | exact Is.bl _
  | exact Is.non
  | (refine Is.mono (H := ?b) ?s ?h; (case h => assumption); walk_at "ex"))
local macro_rules | `(tactic| walk_at "isa") => `(tactic| first
  | exact IsA.nil
  | (refine IsA.cons (d := ?x) (ds := ?xs) ?a ?b; (case a => walk_at "is"); (case b => walk_at "isa"))
  | (refine IsA.mono (H := ?b) ?s ?h; (case h => assumption); walk_at "ex"))
local macro_rules | `(tactic| walk_at "at") => `(tactic| first
  | exact at0
  | exact at1
  | exact at2
  | exact at3
  | exact at4
  | (refine atM (a := ?a) ?h; (case h => assumption))
  | (refine atJ (a := ?a) ?h; (case h => assumption)))
local macro_rules | `(tactic| walk_at "sc") => `(tactic| (intro v hv; first
  | ((with_reducible have e := Is.int_inv hv); subst e; clear hv)
  | ((with_reducible have e := Is.str_inv hv); subst e; clear hv)
  | ((with_reducible have e := Is.bool_inv hv); subst e; clear hv)
  | ((with_reducible have e := Is.none_inv hv); subst e; clear hv)
  | skip))
local macro_rules | `(tactic| walk_at "g") => `(tactic| first
  | with_reducible refine g_seq ?_
  | with_reducible refine g_asg ?_
  | with_reducible refine g_ret ?_
  | with_reducible refine g_drop ?_
  | with_reducible refine g_ifS ?_
  | with_reducible refine g_next ?_
  | with_reducible refine g_break ?_
  | with_reducible refine g_for ?_
  | with_reducible refine g_op ?_
  | ((with_reducible refine g_var (v := ?v) ?h ?k); (case h => exact rfl))
  | with_reducible refine g_c ?_
  | with_reducible refine g_I0 ?_
  | with_reducible refine g_U ?_
  | with_reducible refine g_cons ?_
  | with_reducible refine g_nil ?_
  | with_reducible refine g_cb ?_
  | with_reducible refine g_call ?_
  | with_reducible refine g_test ?_
  | with_reducible refine g_bl ?_
  | with_reducible refine g_int ?_
  | with_reducible refine g_B ?_
  | ((with_reducible refine g_wipe ?e ?k); (case e => exact rfl))
  | with_reducible refine g_iteT ?_
  | with_reducible refine g_iteF ?_
  | with_reducible refine g_iteNT ?_
  | with_reducible refine g_iteNF ?_
  | with_reducible refine g_andK ?_
  | with_reducible refine g_orK ?_
  | with_reducible refine g_notK ?_
  | ((with_reducible refine w_tupK (B := ?b) (ds := ?ds) ?s ?h ?k); (case h => assumption); (case s => walk_at "ex"); intro a S)
  | ((with_reducible refine w_listK (B := ?b) (ds := ?ds) ?s ?h ?k); (case h => assumption); (case s => walk_at "ex"); intro a S)
  | ((with_reducible refine w_enumK (B := ?b) (ds := ?ds) ?s ?h ?k); (case h => assumption); (case s => walk_at "ex"); intro a S)
  | ((with_reducible refine w_enumTK (B := ?b) (ds := ?ds) ?s ?h ?k); (case h => assumption); (case s => walk_at "ex"); intro a S)
  | ((with_reducible refine w_zipK (B := ?b) (ds := ?ds) (es := ?es) ?s ?h ?h' ?k); (case h => assumption); (case h' => walk_at "is"); (case s => walk_at "ex"); intro a b S)
  | ((with_reducible refine w_zipMK (B := ?b) (ds := ?ds) (es := ?es) ?s ?h ?h' ?k); (case h => assumption); (case h' => walk_at "is"); (case s => walk_at "ex"); intro a b S)
  | ((with_reducible refine w_zipTK (B := ?b) (ds := ?ds) (es := ?es) ?s ?h ?h' ?k); (case h => assumption); (case h' => walk_at "is"); (case s => walk_at "ex"); intro a b S)
  | ((with_reducible refine g_listOf (M := ?m) (ds := ?ds) ?c ?d ?h ?k); (case c => assumption); (case d => walk_at "dom"); (case h => first | (refine Or.inl ?_; walk_at "is") | (refine Or.inr ?_; walk_at "is")); intro v H' hs hv)
  | ((with_reducible refine g_tupOf (M := ?m) (ds := ?ds) ?c ?d ?h ?k); (case c => assumption); (case d => walk_at "dom"); (case h => walk_at "is"); intro v H' hs hv)
  | ((with_reducible refine g_tupK (M := ?m) (ds := ?ds) ?c ?d ?h ?l ?k); (case c => assumption); (case d => walk_at "dom"); (case h => walk_at "isa"); (case l => (simp only [List.length_cons, List.length_nil]; omega)); intro v H' hs hv)
  | ((with_reducible refine g_tupT (M := ?m) (ds := ?ds) ?c ?h ?e ?k); (case c => assumption); (case h => walk_at "is"); (case e => rfl); intro xs hxs)
  | ((with_reducible refine g_fldK (C := ?c) (dx := ?dx) (fs := ?fs) (v := ?v) ?h ?cl ?na ?l ?k); (case h => assumption); (case cl => assumption); (case na => assumption); (case l => first | assumption | exact rfl))
  | ((with_reducible refine g_fldM (C := ?c) (dx := ?dx) (fs := ?fs) ?h ?cl ?na ?hl ?k); (case h => assumption); (case cl => assumption); (case na => assumption); (case hl => exact Nat.le_of_ble_eq_true rfl); intro H' u hx)
  | ((with_reducible refine g_ixM (xs := ?xs) (v := ?v) ?h ?e ?k); (case h => assumption); (case e => first | exact at0 | exact at1 | exact at2 | exact at3 | exact at4))
  | ((with_reducible refine g_lenM (xs := ?xs) ?h ?k); (case h => assumption))
  | ((with_reducible refine g_mul ?h ?k); (case h => decide))
  | ((with_reducible refine g_mod ?h ?k); (case h => first | decide | assumption | omega))
  | ((with_reducible refine g_div ?h ?l ?k); (case h => first | decide | assumption | omega); (case l => first | decide | assumption | omega))
  | ((with_reducible refine g_subM (xs := ?xs) (k := ?n) ?h ?j ?k); (case h => assumption); (case j => exact rfl); intro H' u hp)
  | ((with_reducible refine g_draw (l := ?l) (ns := ?ns) ?a ?b ?h ?k); (case a => first | decide | omega); (case b => first | decide | omega); (case h => walk_at "pl"); intro r H' h0 h1 hs pl)
  | ((with_reducible refine g_dgetS (v := ?v) (kvs := ?kvs) ?h ?e ?k); (case h => assumption); (case e => assumption))
  | with_reducible refine g_and ?_
  | with_reducible refine w_keys ?_
  | with_reducible refine w_rng3 ?_
  | with_reducible refine w_items ?_
  | with_reducible refine g_or ?_
  | with_reducible refine g_not ?_
  | with_reducible refine g_yes ?_
  | with_reducible refine g_tru ?_
  | with_reducible refine g_fld ?_
  | with_reducible refine g_meth ?_
  | with_reducible refine g_make ?_
  | with_reducible refine g_tupE ?_
  | with_reducible refine g_lstE ?_
  | with_reducible refine g_sl ?_
  | with_reducible refine g_part ?_
  | with_reducible refine g_nopart ?_
  | with_reducible refine g_bm ?_
  | with_reducible refine g_bm0 ?_
  | with_reducible refine g_if ?_
  | with_reducible refine g_un ?_
  | with_reducible refine g_isN ?_
  | with_reducible refine g_notN ?_
  | with_reducible refine g_andV ?_
  | with_reducible refine g_orV ?_
  | with_reducible refine g_notV ?_
  | with_reducible refine g_lc ?_
  | with_reducible refine g_dget ?_
  | with_reducible refine g_din ?_
  | with_reducible refine g_dnotin ?_
  | with_reducible refine g_fldS ?_
  | with_reducible refine g_dput ?_
  | with_reducible refine g_sub ?_
  | with_reducible refine g_consT ?_
  | with_reducible refine g_nilT ?_
  | ((with_reducible refine g_name (σ' := ?s) ?h ?k); (case h => (dsimp only [List.set]; exact rfl)))
  | with_reducible refine w_list ?_
  | with_reducible refine w_tup ?_
  | with_reducible refine w_rng1 ?_
  | with_reducible refine w_enumT ?_
  | with_reducible refine w_enum ?_
  | with_reducible refine w_zip ?_
  | with_reducible refine w_zipM ?_
  | with_reducible refine w_zipA ?_
  | with_reducible refine w_rng ?_
  | with_reducible refine g_int1 ?_
  | ((with_reducible refine g_ixT (M := ?m) (ds := ?ds) (d := ?d) ?c ?h ?e ?k); (case c => assumption); (case h => walk_at "is"); (case e => walk_at "at"); walk_at "sc")
  | ((with_reducible refine g_ixL (M := ?m) (ds := ?ds) (d := ?d) ?c ?h ?e ?k); (case c => assumption); (case h => walk_at "is"); (case e => walk_at "at"); walk_at "sc")
  | ((with_reducible refine g_lenL (M := ?m) (ds := ?ds) ?c ?h ?k); (case c => assumption); (case h => walk_at "is"))
  | ((with_reducible refine g_lenT (M := ?m) (ds := ?ds) ?c ?h ?k); (case c => assumption); (case h => walk_at "is")))
local macro_rules | `(tactic| walk_at "len") => `(tactic| ((try simp only [List.length_map, List.length_append, List.length_cons, List.length_nil, List.length_range, List.length_zip]); omega))
local macro_rules | `(tactic| walk_at "gg") => `(tactic| repeat walk_at "g")
structure SFld (K : PySem.W.Frag) (C : Addr) : Prop where
  cl : Cls K C
  circuit : NoAttr K C "circuit"
  starts : NoAttr K C "starts"
  limits : NoAttr K C "limits"
  sizes : NoAttr K C "sizes"
  best : NoAttr K C "best"
  cheap : NoAttr K C "cheap"
  quick : NoAttr K C "quick"
def spQuickest : Sp := fun vs H Q _ => ∃ (M : List Addr) (x : Addr) (v : V) (r : List Size), vs = [.ref x, v] ∧ Dom M H ∧ Is (hol M H) (encRow r) v ∧ r ≠ [] ∧ r.length < 1000 ∧ (∃ w, w < 1000 ∧ ∀ s ∈ r, s.2.length = w) ∧
  ∀ v' H', Same H H' → Is (hol M H') (encRg (quickR r)) v' → Q v' H'
theorem r_quickest {K : PySem.W.Frag} {vs : List V} {H : Hp} {Q : VK} {E : XK} {n b c : L2.St → Hp → Prop} (h : spQuickest vs H Q E) : rd_Search_quickest K ⟨n, Q, b, c⟩ (start N_Search_quickest vs) H := by
  obtain ⟨M, x, v, r, rfl, dm, is1, ne, few, ⟨w, hw, hall⟩, k⟩ := h
  have cu := Sg.cur M
  have h0 : r[0]? = some (r.headD (0, [])) := by
    cases r with
    | nil => exact absurd rfl ne
    | cons s r => rfl
  have e0 : atI (r.map encS) 0 = some (encS (r.headD (0, []))) := atM (j := 0) h0
  have wid : (r.headD (0, [])).2.length = w := hall _ (List.mem_of_getElem? h0)
  show rd_Search_quickest K _ [some (.ref x), some v, none, none, none, none] H
  unfold rd_Search_quickest
  walk_at "gg"
  refine g_rngN (fun a H1 s1 ha => ?_)
  walk_at "gg"
  refine w_rngK (n := w) (by rw [List.length_map, wid]) (by omega) ha ?_
  have is11 := is1.mono (same_hol s1)
  have dm1 := dm.mono s1
  refine lc_map (l := List.range w) (enc := fun i : Nat => PyData.int ((i : Nat) : Int)) (src_range (B := hol M H1)) (fun pin => some (encP (0, minL (colL r pin)))) cu dm1 (Same.refl _) (by rw [List.length_range]; omega) (fun i pin x' L H' Y No hd cu dm' sM s0 isx kY kN => ?_) (fun v3 H3 s3 is3 => ?_)
  · obtain rfl := isx.int_inv
    obtain ⟨p1, p2⟩ := List.getElem?_eq_some_iff.mp hd
    rw [List.length_range] at p1
    rw [List.getElem_range] at p2
    subst p2
    show gName 3 (.int ((i : Nat) : Int)) [some (.ref x), some v, some (.ref a), none, none, none] H' _
    have is12 := is11.mono sM
    clear is11 is1
    walk_at "gg"
    refine lc_map ‹Src _ _ (r.map encS)› (fun s : Size => some (.int (s.2.getD i (0, 0)).2)) cu dm' (Same.refl _) (by omega) (fun j s y L2 H4 Y2 No2 hd2 cu dm4 sM2 s02 isy kY2 kN2 => ?_) (fun v4 H4 s4 is4 => ?_)
    · show gTup K 2 _ y [some (.ref x), some v, some (.ref a), some (.int ((i : Nat) : Int)), none, none] H4 _
      have sw := hall s (List.mem_of_getElem? hd2)
      have si : s.2[i]? = some (s.2.getD i (0, 0)) := by
        rw [List.getD_eq_getElem?_getD, List.getElem?_eq_getElem (by omega)]
        rfl
      walk_at "g"
      rename_i xs hxs
      obtain ⟨w1, rr, rfl, i1, hrr⟩ := hxs.cons_inv
      obtain ⟨w2, rr, rfl, i2, hrr⟩ := hrr.cons_inv
      obtain rfl := hrr.nil_inv
      walk_at "gg"
      exact kY2 _ _ _ (Same.refl _) (Is.int _) rfl
    · rw [fm_some] at is4
      have e : (r.map fun s : Size => PyData.int (s.2.getD i (0, 0)).2) = (colL r i).map PyData.int := by
        unfold colL
        rw [List.map_map]
        rfl
      rw [e] at is4
      walk_at "gg"
      refine g_min cu is4 ?_ (fun m hm hle => ?_)
      · unfold colL
        rw [List.length_map]
        exact List.length_pos_iff.mpr ne
      · have := minL_eq hm hle
        subst this
        walk_at "gg"
        exact kY _ _ _ (by walk_at "ex") (by assumption) rfl
  · rw [fm_some] at is3
    walk_at "gg"
    refine k _ _ (by walk_at "ex") ?_
    have e : encRg (quickR r) = .tuple ((List.range w).map fun pin => encP (0, minL (colL r pin))) := by
      unfold encRg quickR
      rw [wid, List.map_map]
      rfl
    rw [e]
    assumption
theorem ok_quickest {P : Program} {w : World} {K : PySem.W.Frag} {mg : Str → Option Value} {base : Heap} {f : Addr} {fd : FuncData} (F : Fun K "quickest" "Search.quickest" s_Search_quickest f fd) (T : Bl mg) : FnOk P w K mg base CX0 1 f fd ["self", "rows"] spQuickest :=
  F.ok sc_Search_quickest (fun vs H Q E h => by
    obtain ⟨_, _, _, _, rfl, _⟩ := h
    rfl) fun cdv A' outer s H vs Q E hr h => ⟨_, dv_Search_quickest T hr, r_quickest h⟩
structure Prob where
  c : Circ
  st : List (Int × Int)
  lim : List (Str × Int)
  sizes : List (List Size)
structure POk (p : Prob) : Prop where
  S : Sound p.c
  Z : SzOk p.c p.sizes
  hl : p.st.length = (srcs p.c).length
  hst : ∀ q ∈ p.st, q.1 ≤ q.2
  hlim : ∀ n l, (n, l) ∈ p.lim → n ∈ nets p.c
  bnd : ∃ B, (∀ r ∈ p.sizes, r.length ≤ B) ∧ wt B p.sizes.length < 50000
theorem POk.few {p : Prob} (h : POk p) : p.sizes.length < 1000 := by
  rw [h.Z.len]
  exact h.S.few2
theorem POk.wid {p : Prob} (h : POk p) {i : Nat} {r : List Size} (hr : p.sizes[i]? = some r) : ∃ g, p.c.gates[i]? = some g ∧ g.nets.length < 1000 ∧ ∀ s ∈ r, s.2.length = g.nets.length := by
  have hi := (List.getElem?_eq_some_iff.mp hr).1
  rw [h.Z.len] at hi
  have hg : p.c.gates[i]? = some p.c.gates[i] := List.getElem?_eq_getElem hi
  exact ⟨_, hg, (h.S.pins _ (List.mem_of_getElem? hg)).2, h.Z.wid i _ _ hg hr⟩
@[reducible] def encB : Option (Int × List Nat) → PyData
  | none => .none
  | some p => .tuple [.int p.1, encCh p.2]
abbrev fsS (cv sv : V) (dl : Addr) (zv bv chv qv : V) : List (Str × V) := [("circuit", cv), ("starts", sv), ("limits", .ref dl), ("sizes", zv), ("best", bv), ("cheap", chv), ("quick", qv)]
structure SB (C : Addr) (N : List Addr) (x dx dl : Addr) (cv sv zv chv qv : V) (p : Prob) (o : Option (Int × List Nat)) (H' : Hp) : Prop where
  hx : ∃ bv, H' x = some (.ins C dx (fsS cv sv dl zv bv chv qv)) ∧ Is (hol N H') (encB o) bv
  xN : x ∈ N
  dN : dl ∈ N
  dm : Dom N H'
  isc : Is (hol N H') (encC p.c) cv
  iss : Is (hol N H') (.list (p.st.map encP)) sv
  isz : Is (hol N H') (encSS p.sizes) zv
  isch : Is (hol N H') (.list ((p.sizes.map cheapR).map PyData.int)) chv
  isq : Is (hol N H') (encRows (p.sizes.map quickR)) qv
  hd : ∃ kvs, H' dl = some (.dK kvs) ∧ IsD (fun i : Int => PyData.int i) (hol N H') p.lim kvs
section
variable {C : Addr} {N : List Addr} {x dx dl : Addr} {cv sv zv chv qv : V} {p : Prob} {o : Option (Int × List Nat)} {A B : Hp}
theorem SB.same (s : Same A B) (h : SB C N x dx dl cv sv zv chv qv p o A) : SB C N x dx dl cv sv zv chv qv p o B := by
  obtain ⟨⟨bv, h1, h2⟩, h3, h4, h5, h6, h7, h8, h9, h10, ⟨kvs, h11, h12⟩⟩ := h
  have t := same_hol (M := N) s
  exact ⟨⟨bv, s _ _ h1, h2.mono t⟩, h3, h4, h5.mono s, h6.mono t, h7.mono t, h8.mono t, h9.mono t, h10.mono t, ⟨kvs, s _ _ h11, h12.mono t⟩⟩
theorem SB.upd {l : Addr} {u : HO} (h : SB C N x dx dl cv sv zv chv qv p o A) (q : Upd l A B) (hl : l ∈ N) (h1 : l ≠ x) (h2 : l ≠ dl) (hb : B l = some u) : SB C N x dx dl cv sv zv chv qv p o B := by
  obtain ⟨⟨bv, g1, g2⟩, h3, h4, h5, h6, h7, h8, h9, h10, ⟨kvs, h11, h12⟩⟩ := h
  have t : Same (hol N A) (hol N B) := q.hol hl
  exact ⟨⟨bv, q.at h1.symm g1, g2.mono t⟩, h3, h4, q.dom hb h5, h6.mono t, h7.mono t, h8.mono t, h9.mono t, h10.mono t, ⟨kvs, q.at h2.symm h11, h12.mono t⟩⟩
theorem SB.more {L : Addr} {u : HO} (h : SB C N x dx dl cv sv zv chv qv p o A) (s : Same A B) (t : Same (hol N A) (hol (L :: N) B)) (hb : B L = some u) : SB C (L :: N) x dx dl cv sv zv chv qv p o B := by
  obtain ⟨⟨bv, g1, g2⟩, h3, h4, h5, h6, h7, h8, h9, h10, ⟨kvs, h11, h12⟩⟩ := h
  exact ⟨⟨bv, s _ _ g1, g2.mono t⟩, List.mem_cons_of_mem _ h3, List.mem_cons_of_mem _ h4, .cons hb (h5.mono s), h6.mono t, h7.mono t, h8.mono t, h9.mono t, h10.mono t, ⟨kvs, s _ _ h11, h12.mono t⟩⟩
end
theorem same_lock {A B : Hp} {d : Addr} {u : HO} (h : Same (hol [d] A) (hol [d] B)) (hd : A d = some u) : Same A (upd B d u) := fun b o e => by
  by_cases q : b = d
  · subst q
    rw [upd_same]
    rw [hd] at e
    exact e
  · rw [upd_ne q]
    exact hol_le _ _ (h b o (hol_some.mpr ⟨by simp [q], e⟩))
theorem same_back {A B : Hp} {d : Addr} {u : HO} (h : Same (hol [d] A) (hol [d] B)) (hd : A d = some u) (hb : B d = some u) : Same A B := fun b o e => by
  by_cases q : b = d
  · subst q
    rw [hd] at e
    rw [hb]
    exact e
  · exact hol_le _ _ (h b o (hol_some.mpr ⟨by simp [q], e⟩))
def spSearchInit (C : Addr) : Sp := fun vs H Q _ => ∃ (M : List Addr) (x dx dl : Addr) (p : Prob) (cv sv zv : V) (kvs : List (Key × V)), vs = [.ref x, cv, sv, .ref dl, zv] ∧ Dom (x :: M) H ∧ dl ∈ M ∧ H x = some (.ins C dx []) ∧ Is (hol (x :: M) H) (encC p.c) cv ∧
  Is (hol (x :: M) H) (.list (p.st.map encP)) sv ∧ Is (hol (x :: M) H) (encSS p.sizes) zv ∧ H dl = some (.dK kvs) ∧ IsD (fun i : Int => PyData.int i) (hol (x :: M) H) p.lim kvs ∧ POk p ∧
  ∀ H' chv qv, Same (hol [x] H) (hol [x] H') → SB C (x :: M) x dx dl cv sv zv chv qv p none H' → Q .non H'
theorem r_search_init {K : PySem.W.Frag} {C : Addr} (A : SFld K C) {vs : List V} {H : Hp} {Q : VK} {E : XK} {b c : L2.St → Hp → Prop} (h : spSearchInit C vs H Q E) : rd_Search_init K C spQuickest ⟨fun _ H' => Q .non H', Q, b, c⟩ (start N_Search_init vs) H := by
  obtain ⟨M, x, dx, dl, p, cv, sv, zv, kvs, rfl, dm, dM, hx, isc, iss, isz, hd, isd, P, k⟩ := h
  obtain ⟨cl, na1, na2, na3, na4, na5, na6, na7⟩ := A
  have cu := Sg.cur (x :: M)
  have ndx : dl ≠ x := fun q => by rw [q, hx] at hd; cases hd
  have few := P.few
  show rd_Search_init K _ _ _ [some (.ref x), some cv, some sv, some (.ref dl), some zv, none, none, none] H
  unfold rd_Search_init
  iterate 6 walk_at "g"
  rename_i H1 u1 hx1
  have hx1 : H1 x = some (.ins C dx [("circuit", cv)]) := hx1
  iterate 5 walk_at "g"
  rename_i H2 u2 hx2
  have hx2 : H2 x = some (.ins C dx [("circuit", cv), ("starts", sv)]) := hx2
  iterate 5 walk_at "g"
  rename_i H3 u3 hx3
  have hx3 : H3 x = some (.ins C dx [("circuit", cv), ("starts", sv), ("limits", .ref dl)]) := hx3
  iterate 5 walk_at "g"
  rename_i H4 u4 hx4
  have hx4 : H4 x = some (.ins C dx [("circuit", cv), ("starts", sv), ("limits", .ref dl), ("sizes", zv)]) := hx4
  iterate 5 walk_at "g"
  rename_i H5 u5 hx5
  have hx5 : H5 x = some (.ins C dx [("circuit", cv), ("starts", sv), ("limits", .ref dl), ("sizes", zv), ("best", .non)]) := hx5
  have t5 : ∀ N, x ∈ N → Same (hol N H) (hol N H5) := fun N hN => ((((u1.hol hN).trans (u2.hol hN)).trans (u3.hol hN)).trans (u4.hol hN)).trans (u5.hol hN)
  have dm5 := u5.dom hx5 (u4.dom hx4 (u3.dom hx3 (u2.dom hx2 (u1.dom hx1 dm))))
  have isz5 := isz.mono (t5 (x :: M) (by simp))
  have hd5 := u5.at ndx (u4.at ndx (u3.at ndx (u2.at ndx (u1.at ndx hd))))
  walk_at "gg"
  refine lc_map (enc := encRow) ‹Src _ _ _› (fun r => some (.int (cheapR r))) cu dm5 (Same.refl _) (by omega) (fun i r y L H' Y No hr cu dm' sM s0 isy kY kN => ?_) (fun v6 H6 s6 is6 => ?_)
  · show gName 5 y [some (.ref x), some cv, some sv, some (.ref dl), some zv, none, none, none] H' _
    have rm := List.mem_of_getElem? hr
    have rf := P.Z.few r rm
    walk_at "gg"
    refine lc_map ‹Src _ _ (r.map encS)› (fun s : Size => some (.int s.1)) cu dm' (Same.refl _) (by omega) (fun j s y2 L2 H4 Y2 No2 hd2 cu dm4 sM2 s02 isy2 kY2 kN2 => ?_) (fun v4 H4 s4 is4 => ?_)
    · show gTup K 2 _ y2 [some (.ref x), some cv, some sv, some (.ref dl), some zv, some y, none, none] H4 _
      walk_at "g"
      rename_i xs hxs
      obtain ⟨w1, rr, rfl, i1, hrr⟩ := hxs.cons_inv
      obtain ⟨w2, rr, rfl, i2, hrr⟩ := hrr.cons_inv
      obtain rfl := hrr.nil_inv
      obtain rfl := i1.int_inv
      walk_at "gg"
      exact kY2 _ _ _ (Same.refl _) (Is.int _) rfl
    · rw [fm_some] at is4
      have e : (r.map fun s : Size => PyData.int s.1) = (r.map (·.1)).map PyData.int := by
        rw [List.map_map]
        rfl
      rw [e] at is4
      walk_at "gg"
      refine g_min cu is4 ?_ (fun m hm hle => ?_)
      · rw [List.length_map]
        exact List.length_pos_iff.mpr (P.Z.ne r rm)
      · have := minL_eq hm hle
        subst this
        exact kY _ _ _ (by walk_at "ex") (Is.int _) rfl
  rw [fm_some] at is6
  have e6 : (p.sizes.map fun r => PyData.int (cheapR r)) = (p.sizes.map cheapR).map PyData.int := by rw [List.map_map]; rfl
  rw [e6] at is6
  have hx6 := s6 _ _ hx5
  walk_at "gg"
  rename_i H7 u7 hx7
  have hx7 : H7 x = some (.ins C dx [("circuit", cv), ("starts", sv), ("limits", .ref dl), ("sizes", zv), ("best", .non), ("cheap", v6)]) := hx7
  have t7 : Same (hol (x :: M) H5) (hol (x :: M) H7) := (same_hol s6).trans (u7.hol (by simp))
  have isz7 := isz5.mono t7
  have dm7 := u7.dom hx7 (dm5.mono s6)
  clear isz5 isz
  walk_at "gg"
  refine lc_map (enc := encRow) ‹Src _ (hol (x :: M) H7) _› (fun r => some (encRg (quickR r))) cu dm7 (Same.refl _) (by omega) (fun i r y L H' Y No hr cu dm' sM s0 isy kY kN => ?_) (fun v8 H8 s8 is8 => ?_)
  · show gName 5 y [some (.ref x), some cv, some sv, some (.ref dl), some zv, none, none, none] H' _
    have rm := List.mem_of_getElem? hr
    obtain ⟨g, _, hg1, hg2⟩ := P.wid hr
    walk_at "gg"
    refine g_methK (hol_le _ _ (s0 _ _ hx7)) rfl ?_
    walk_at "gg"
    refine ⟨_, x, y, r, rfl, dm', isy, P.Z.ne r rm, P.Z.few r rm, ⟨_, hg1, hg2⟩, fun v' H3 s3 is3 => ?_⟩
    exact kY _ _ _ s3 is3 rfl
  rw [fm_some] at is8
  have e8 : (p.sizes.map fun r => encRg (quickR r)) = (p.sizes.map quickR).map encRg := by rw [List.map_map]; rfl
  rw [e8] at is8
  have hx8 := s8 _ _ hx7
  walk_at "gg"
  rename_i H9 u9 hx9
  have hx9 : H9 x = some (.ins C dx (fsS cv sv dl zv .non v6 v8)) := hx9
  have t8 : Same (hol (x :: M) H7) (hol (x :: M) H9) := (same_hol s8).trans (u9.hol (by simp))
  have tA : Same (hol (x :: M) H) (hol (x :: M) H9) := ((t5 (x :: M) (by simp)).trans t7).trans t8
  refine k H9 v6 v8 ?_ ⟨⟨.non, hx9, Is.non⟩, by simp, by simp [dM], u9.dom hx9 (dm7.mono s8), isc.mono tA, iss.mono tA, isz7.mono t8, ?_, is8.mono (u9.hol (by simp)), ⟨kvs, ?_, isd.mono tA⟩⟩
  · exact ((((t5 [x] (by simp)).trans (same_hol s6)).trans (u7.hol (by simp))).trans (same_hol s8)).trans (u9.hol (by simp))
  · exact (is6.mono (u7.hol (by simp))).mono t8
  · exact u9.at ndx (s8 _ _ (u7.at ndx (s6 _ _ hd5)))
theorem ok_search_init {P : Program} {w : World} {K : PySem.W.Frag} {mg : Str → Option Value} {base : Heap} {C : Addr} {f : Addr} {fd : FuncData} (F : Fun K "__init__" "Search.__init__" s_Search_init f fd) (T : Bl mg) (A : SFld K C) (c1 : Met P w K mg base 1 C "quickest" spQuickest) : FnOk P w K mg base CX0 2 f fd ["self", "circuit", "starts", "limits", "sizes"] (spSearchInit C) :=
  F.ok sc_Search_init (fun vs H Q E h => by
    obtain ⟨_, _, _, _, _, _, _, _, _, rfl, _⟩ := h
    rfl) fun cdv A' outer s H vs Q E hr h => ⟨_, dv_Search_init T c1 hr, r_search_init A h⟩

end Sg
namespace Sg
open PySem PySem.Spec PyProof.Rows L2
local macro_rules | `(tactic| walk_at "ey") => `(tactic| first
  | exact Same.refl _
  | exact hol_le
  | assumption
  | (refine Same.on ?r (same_hol (H := ?b) ?h); (case h => assumption); walk_at "ey")
  | (refine Same.on ?r (Upd.hol (l := ?l) (H := ?b) ?h ?m); (case h => assumption); (case m => simp); walk_at "ey")
  | (refine Same.on ?r (weak1 (p := ?p) (A := ?b) ?n ?h); (case h => assumption); (case n => simp); walk_at "ey")
  | (refine Same.on (B := ?b) ?r ?h; (case h => assumption); walk_at "ey")
  | (refine Same.on ?r (same1 (A := ?b) ?h); (case h => assumption); walk_at "ey")
  | (refine Same.on ?r (same2 (A := ?b) ?h); (case h => assumption); walk_at "ey"))
local macro_rules | `(tactic| walk_at "ex") => `(tactic| first
  | exact Same.refl _
  | exact hol_le
  | assumption
  | (refine Same.on ?r (same_hol (H := ?b) ?h); (case h => assumption); walk_at "ex")
  | (refine Same.on ?r (Upd.hol (l := ?l) (H := ?b) ?h ?m); (case h => assumption); (case m => simp); walk_at "ex")
  | (refine Same.on ?r (weak1 (p := ?p) (A := ?b) ?n ?h); (case h => assumption); (case n => simp); walk_at "ex")
  | (refine Same.on (B := ?b) ?r ?h; (case h => assumption); walk_at "ex")
  | (refine Same.on ?r (same1 (A := ?b) ?h); (case h => assumption); walk_at "ex")
  | (refine Same.on ?r (same2 (A := ?b) ?h); (case h => assumption); walk_at "ex")
  | (refine Same.on ?r (hol_le (M := ?m)); walk_at "ey"))
local macro_rules | `(tactic| walk_at "dom") => `(tactic| first
  | assumption
  | exact Dom.nil
  | (refine Dom.mono (H := ?b) ?h ?d; (case h => assumption); walk_at "dom")
  | (refine dom_draw (p := ?p) (l := ?l) (ns := ?ns) (A := ?b) ?h ?c ?d; (case h => assumption); (case c => assumption); walk_at "dom")
  | (refine Dom.cons (o := ?o) ?h ?d; (case h => assumption); walk_at "dom")
  | (refine Dom.holm (A := ?b) (N := ?n) ?h ?d; (case h => assumption); walk_at "dom")
  | (refine Upd.dom (l := ?l) (H := ?b) (o := ?o) ?h ?e ?d; (case h => assumption); (case e => assumption); walk_at "dom"))
local macro_rules | `(tactic| walk_at "pl") => `(tactic| first
  | assumption
  | (refine Pl.same (A := ?b) ?s ?h; (case s => assumption); walk_at "pl"))
local macro_rules | `(tactic| walk_at "is") => `(tactic| first
  | assumption
  | exact Is.int _
  | exact Is.str _
  | exact Is.bl _
  | exact Is.non
  | (refine Is.mono (H := ?b) ?s ?h; (case h => assumption); walk_at "ex"))
local macro_rules | `(tactic| walk_at "isa") => `(tactic| first
  | exact IsA.nil
  | (refine IsA.cons (d := ?x) (ds := ?xs) ?a ?b; (case a => walk_at "is"); (case b => walk_at "isa"))
  | (refine IsA.mono (H := ?b) ?s ?h; (case h => assumption); walk_at "ex"))
local macro_rules | `(tactic| walk_at "at") => `(tactic| first
  | exact at0
  | exact at1
  | exact at2
  | exact at3
  | exact at4
  | (refine atM (a := ?a) ?h; (case h => assumption))
  | (refine atJ (a := ?a) ?h; (case h => assumption)))
local macro_rules | `(tactic| walk_at "sc") => `(tactic| (intro v hv; first
  | ((with_reducible have e := Is.int_inv hv); subst e; clear hv)
  | ((with_reducible have e := Is.str_inv hv); subst e; clear hv)
  | ((with_reducible have e := Is.bool_inv hv); subst e; clear hv)
  | ((with_reducible have e := Is.none_inv hv); subst e; clear hv)
  | skip))
local macro_rules | `(tactic| walk_at "g") => `(tactic| first
  | with_reducible refine g_seq ?_
  | with_reducible refine g_asg ?_
  | with_reducible refine g_ret ?_
  | with_reducible refine g_drop ?_
  | with_reducible refine g_ifS ?_
  | with_reducible refine g_next ?_
  | with_reducible refine g_break ?_
  | with_reducible refine g_for ?_
  | with_reducible refine g_op ?_
  | ((with_reducible refine g_var (v := ?v) ?h ?k); (case h => exact rfl))
  | with_reducible refine g_c ?_
  | with_reducible refine g_I0 ?_
  | with_reducible refine g_U ?_
  | with_reducible refine g_cons ?_
  | with_reducible refine g_nil ?_
  | with_reducible refine g_cb ?_
  | with_reducible refine g_call ?_
  | with_reducible refine g_test ?_
  | with_reducible refine g_bl ?_
  | with_reducible refine g_int ?_
  | with_reducible refine g_B ?_
  | ((with_reducible refine g_wipe ?e ?k); (case e => exact rfl))
  | with_reducible refine g_iteT ?_
  | with_reducible refine g_iteF ?_
  | with_reducible refine g_iteNT ?_
  | with_reducible refine g_iteNF ?_
  | with_reducible refine g_andK ?_
  | with_reducible refine g_orK ?_
  | with_reducible refine g_notK ?_
  | ((with_reducible refine w_tupK (B := ?b) (ds := ?ds) ?s ?h ?k); (case h => assumption); (case s => walk_at "ex"); intro a S)
  | ((with_reducible refine w_listK (B := ?b) (ds := ?ds) ?s ?h ?k); (case h => assumption); (case s => walk_at "ex"); intro a S)
  | ((with_reducible refine w_enumK (B := ?b) (ds := ?ds) ?s ?h ?k); (case h => assumption); (case s => walk_at "ex"); intro a S)
  | ((with_reducible refine w_enumTK (B := ?b) (ds := ?ds) ?s ?h ?k); (case h => assumption); (case s => walk_at "ex"); intro a S)
  | ((with_reducible refine w_zipK (B := ?b) (ds := ?ds) (es := ?es) ?s ?h ?h' ?k); (case h => assumption); (case h' => walk_at "is"); (case s => walk_at "ex"); intro a b S)
  | ((with_reducible refine w_zipMK (B := ?b) (ds := ?ds) (es := ?es) ?s ?h ?h' ?k); (case h => assumption); (case h' => walk_at "is"); (case s => walk_at "ex"); intro a b S)
  | ((with_reducible refine w_zipTK (B := ?b) (ds := ?ds) (es := ?es) ?s ?h ?h' ?k); (case h => assumption); (case h' => walk_at "is"); (case s => walk_at "ex"); intro a b S)
  | ((with_reducible refine g_listOf (M := ?m) (ds := ?ds) ?c ?d ?h ?k); (case c => assumption); (case d => walk_at "dom"); (case h => first | (refine Or.inl ?_; walk_at "is") | (refine Or.inr ?_; walk_at "is")); intro v H' hs hv)
  | ((with_reducible refine g_tupOf (M := ?m) (ds := ?ds) ?c ?d ?h ?k); (case c => assumption); (case d => walk_at "dom"); (case h => walk_at "is"); intro v H' hs hv)
  | ((with_reducible refine g_tupK (M := ?m) (ds := ?ds) ?c ?d ?h ?l ?k); (case c => assumption); (case d => walk_at "dom"); (case h => walk_at "isa"); (case l => (simp only [List.length_cons, List.length_nil]; omega)); intro v H' hs hv)
  | ((with_reducible refine g_tupT (M := ?m) (ds := ?ds) ?c ?h ?e ?k); (case c => assumption); (case h => walk_at "is"); (case e => rfl); intro xs hxs)
  | ((with_reducible refine g_fldK (C := ?c) (dx := ?dx) (fs := ?fs) (v := ?v) ?h ?cl ?na ?l ?k); (case h => assumption); (case cl => assumption); (case na => assumption); (case l => first | assumption | exact rfl))
  | ((with_reducible refine g_fldM (C := ?c) (dx := ?dx) (fs := ?fs) ?h ?cl ?na ?hl ?k); (case h => assumption); (case cl => assumption); (case na => assumption); (case hl => exact Nat.le_of_ble_eq_true rfl); intro H' u hx)
  | ((with_reducible refine g_ixM (xs := ?xs) (v := ?v) ?h ?e ?k); (case h => assumption); (case e => first | exact at0 | exact at1 | exact at2 | exact at3 | exact at4))
  | ((with_reducible refine g_lenM (xs := ?xs) ?h ?k); (case h => assumption))
  | ((with_reducible refine g_mul ?h ?k); (case h => decide))
  | ((with_reducible refine g_mod ?h ?k); (case h => first | decide | assumption | omega))
  | ((with_reducible refine g_div ?h ?l ?k); (case h => first | decide | assumption | omega); (case l => first | decide | assumption | omega))
  | ((with_reducible refine g_subM (xs := ?xs) (k := ?n) ?h ?j ?k); (case h => assumption); (case j => exact rfl); intro H' u hp)
  | ((with_reducible refine g_draw (l := ?l) (ns := ?ns) ?a ?b ?h ?k); (case a => first | decide | omega); (case b => first | decide | omega); (case h => walk_at "pl"); intro r H' h0 h1 hs pl)
  | ((with_reducible refine g_dgetS (v := ?v) (kvs := ?kvs) ?h ?e ?k); (case h => assumption); (case e => assumption))
  | with_reducible refine g_and ?_
  | with_reducible refine w_keys ?_
  | with_reducible refine w_rng3 ?_
  | with_reducible refine w_items ?_
  | with_reducible refine g_or ?_
  | with_reducible refine g_not ?_
  | with_reducible refine g_yes ?_
  | with_reducible refine g_tru ?_
  | with_reducible refine g_fld ?_
  | with_reducible refine g_meth ?_
  | with_reducible refine g_make ?_
  | with_reducible refine g_tupE ?_
  | with_reducible refine g_lstE ?_
  | with_reducible refine g_sl ?_
  | with_reducible refine g_part ?_
  | with_reducible refine g_nopart ?_
  | with_reducible refine g_bm ?_
  | with_reducible refine g_bm0 ?_
  | with_reducible refine g_if ?_
  | with_reducible refine g_un ?_
  | with_reducible refine g_isN ?_
  | with_reducible refine g_notN ?_
  | with_reducible refine g_andV ?_
  | with_reducible refine g_orV ?_
  | with_reducible refine g_notV ?_
  | with_reducible refine g_lc ?_
  | with_reducible refine g_dget ?_
  | with_reducible refine g_din ?_
  | with_reducible refine g_dnotin ?_
  | with_reducible refine g_fldS ?_
  | with_reducible refine g_dput ?_
  | with_reducible refine g_sub ?_
  | with_reducible refine g_consT ?_
  | with_reducible refine g_nilT ?_
  | ((with_reducible refine g_name (σ' := ?s) ?h ?k); (case h => (dsimp only [List.set]; exact rfl)))
  | with_reducible refine w_list ?_
  | with_reducible refine w_tup ?_
  | with_reducible refine w_rng1 ?_
  | with_reducible refine w_enumT ?_
  | with_reducible refine w_enum ?_
  | with_reducible refine w_zip ?_
  | with_reducible refine w_zipM ?_
  | with_reducible refine w_zipA ?_
  | with_reducible refine w_rng ?_
  | with_reducible refine g_int1 ?_
  | ((with_reducible refine g_ixT (M := ?m) (ds := ?ds) (d := ?d) ?c ?h ?e ?k); (case c => assumption); (case h => walk_at "is"); (case e => walk_at "at"); walk_at "sc")
  | ((with_reducible refine g_ixL (M := ?m) (ds := ?ds) (d := ?d) ?c ?h ?e ?k); (case c => assumption); (case h => walk_at "is"); (case e => walk_at "at"); walk_at "sc")
  | ((with_reducible refine g_lenL (M := ?m) (ds := ?ds) ?c ?h ?k); (case c => assumption); (case h => walk_at "is"))
  | ((with_reducible refine g_lenT (M := ?m) (ds := ?ds) ?c ?h ?k); (case c => assumption); (case h => walk_at "is")))
local macro_rules | `(tactic| walk_at "len") => `(tactic| ((try simp only [List.length_map, List.length_append, List.length_cons, List.length_nil, List.length_range, List.length_zip]); omega))
local macro_rules | `(tactic| walk_at "gg") => `(tactic| repeat walk_at "g")
def hiP (p : Prob) (ch : List Nat) : List (List Int) := hiPart (rowsOf p.sizes) ((p.sizes.map quickR).map fun q => q.map (·.2)) ch
def Chs (p : Prob) (ch : List Nat) : Prop := Pre (rowsOf p.sizes) ch
theorem Chs.len {p : Prob} {ch : List Nat} (h : Chs p ch) : ch.length ≤ p.sizes.length := by
  have := Pre.len h
  unfold rowsOf at this
  rw [List.length_map] at this
  exact this
def rowsP (p : Prob) (ch : List Nat) : List (List (Int × Int)) := chosenR p.sizes ch ++ (p.sizes.map quickR).drop ch.length
theorem rowsP_hi {p : Prob} {ch : List Nat} (h : Chs p ch) : (rowsP p ch).map (fun q => q.map (·.2)) = hiP p ch := by
  unfold rowsP hiP hiPart
  rw [List.map_append, chosenR_eq h, List.map_drop]
theorem chosen_len {p : Prob} {ch : List Nat} (h : Chs p ch) : (chosenR p.sizes ch).length = ch.length := by
  unfold chosenR
  rw [List.length_map, List.length_zip]
  have := h.len
  omega
theorem rowsP_len {p : Prob} {ch : List Nat} (h : Chs p ch) : (rowsP p ch).length = p.sizes.length := by
  unfold rowsP
  rw [List.length_append, chosen_len h, List.length_drop, List.length_map]
  have := h.len
  omega
theorem rowsP_wid {p : Prob} (P : POk p) {ch : List Nat} (h : Chs p ch) (i : Nat) (g : Gate) (r : List (Int × Int)) (hg : p.c.gates[i]? = some g) (hr : (rowsP p ch)[i]? = some r) : r.length = g.nets.length := by
  have hi := (List.getElem?_eq_some_iff.mp hr).1
  rw [rowsP_len h] at hi
  have hs : p.sizes[i]? = some p.sizes[i] := List.getElem?_eq_getElem hi
  have hw := P.Z.wid i g _ hg hs
  have hne := P.Z.ne _ (List.mem_of_getElem? hs)
  unfold rowsP at hr
  rw [List.getElem?_append] at hr
  by_cases q : i < (chosenR p.sizes ch).length
  · rw [if_pos q] at hr
    have q' := q
    rw [chosen_len h] at q'
    unfold chosenR at hr
    rw [List.getElem?_map] at hr
    obtain ⟨e, he, rfl⟩ := Option.map_eq_some_iff.mp hr
    have hk := (ChOk.of h) e (List.mem_of_getElem? he)
    have he := List.getElem?_zip_eq_some.mp he
    rw [hs] at he
    have e1 : e.1 = p.sizes[i] := (Option.some.inj he.1).symm
    rw [e1] at hk ⊢
    refine hw _ ?_
    rw [List.getD_eq_getElem?_getD, List.getElem?_eq_getElem hk]
    exact List.getElem_mem hk
  · rw [if_neg q, chosen_len h, List.getElem?_drop, List.getElem?_map] at hr
    rw [chosen_len h] at q
    have : ch.length + (i - ch.length) = i := by omega
    rw [this, hs] at hr
    cases hr
    unfold quickR
    rw [List.length_map, List.length_range]
    cases e : p.sizes[i] with
    | nil => exact absurd e hne
    | cons s r => exact hw s (by rw [e]; exact List.mem_cons_self)
def spCanMeet (C : Addr) : Sp := fun vs H Q _ => ∃ (N : List Addr) (x dx dl : Addr) (cv sv zv chv qv v : V) (p : Prob) (o : Option (Int × List Nat)) (ch : List Nat), vs = [.ref x, v] ∧ SB C N x dx dl cv sv zv chv qv p o H ∧ POk p ∧ Is (hol N H) (encCh ch) v ∧ Chs p ch ∧
  ∀ b t H', Same H H' → Late (srcL p.c p.st) (gsL p.c) (hiP p ch) t → (b = true ↔ Within p.lim t) → Q (.bl b) H'
theorem r_can_meet {K : PySem.W.Frag} {C CA : Addr} (A : SFld K C) {vs : List V} {H : Hp} {Q : VK} {E : XK} {n b c : L2.St → Hp → Prop} (h : spCanMeet C vs H Q E) : rd_Search_can_meet K CA (spArrInit CA) (spLate CA) spChosenRanges spWithRanges ⟨n, Q, b, c⟩ (start N_Search_can_meet vs) H := by
  obtain ⟨N, x, dx, dl, cv, sv, zv, chv, qv, v, p, o, ch, rfl, B, P, isv, hch, k⟩ := h
  obtain ⟨cl, na1, na2, na3, na4, na5, na6, na7⟩ := A
  have cu := Sg.cur N
  have few := P.few
  have chl := hch.len
  have B0 := B
  obtain ⟨⟨bv, hx, isb⟩, xN, dN, dm, isc, iss, isz, isch, isq, kvs, hd, isd⟩ := B
  show rd_Search_can_meet K _ _ _ _ _ _ [some (.ref x), some v, none, none, none, none, none] H
  unfold rd_Search_can_meet
  walk_at "gg"
  refine g_SpF cu (p.sizes, ch) (by walk_at "dom") (by walk_at "isa") ⟨ChOk.of hch, few⟩ (fun d v1 H1 hd1 s1 is1 => ?_)
  dsimp only at hd1
  subst hd1
  have hx1 := s1 _ _ hx
  have dm1 := dm.mono s1
  have isq1 := isq.mono (same_hol s1)
  walk_at "gg"
  rw [List.length_map]
  refine g_slD cu dm1 isq1 (by rw [List.length_map, List.length_map]; exact chl) (fun v2 H2 s2 is2 => ?_)
  have is12 := is1.mono (same_hol s2)
  have dm2 := dm1.mono s2
  refine g_cat cu dm2 is12 is2 (by rw [List.length_map, chosen_len hch, List.length_drop, List.length_map, List.length_map]; omega) (fun v3 H3 s3 is3 => ?_)
  have e3 : (chosenR p.sizes ch).map encRg ++ ((p.sizes.map quickR).map encRg).drop ch.length = (rowsP p ch).map encRg := by
    unfold rowsP
    rw [List.map_append, List.map_drop]
  rw [e3] at is3
  have s03 := (s1.trans s2).trans s3
  have B3 := B0.same s03
  have hx3 := s03 _ _ hx
  have isc3 := isc.mono (same_hol s03)
  have dm3 := dm2.mono s3
  have rl := rowsP_len hch
  walk_at "gg"
  refine g_SpF (α := Circ × List (List (Int × Int))) cu (p.c, rowsP p ch) dm3 (.cons isc3 (.cons is3 .nil)) ⟨P.S.few2, by rw [rl]; exact few⟩ (fun d v4 H4 hd4 s4 is4 => ?_)
  dsimp only at hd4
  subst hd4
  have B4 := B3.same s4
  have hx4 := s4 _ _ hx3
  have dm4 := dm3.mono s4
  walk_at "gg"
  have hgl : p.c.gates.length = (rowsP p ch).length := by rw [rl, P.Z.len]
  have S4 := wr_sound P.S hgl (rowsP_wid P hch)
  refine g_makeK cu dm4 (fun y dy H5 hy s5 s5' dm5 yN hy5 => ?_)
  refine ⟨N, y, dy, wr p.c (rowsP p ch), p.st, v4, sv, rfl, dm5, yN, hy5, is4.mono s5, B4.iss.mono s5, S4, P.hl, P.hst, fun H6 t s6 ar lt => ⟨rfl, ?_⟩⟩
  have s46 : Same H4 H6 := (s5'.trans s6).trans hol_le
  have B6 := B4.same s46
  have hx6 := s46 _ _ hx4
  have lt' : Late (srcL p.c p.st) (gsL p.c) (hiP p ch) t := by
    have e1 := wr_gs (c := p.c) (rows := rowsP p ch) (Nat.le_of_eq hgl)
    have e2 := wr_hsL (c := p.c) (rows := rowsP p ch) hgl
    rw [rowsP_hi hch] at e2
    rw [e1, e2] at lt
    exact lt
  have en := wr_nets (c := p.c) (rows := rowsP p ch) (Nat.le_of_eq hgl)
  obtain ⟨kvs6, hd6, isd6⟩ := B6.hd
  walk_at "g"
  walk_at "g"
  refine g_lock hd6 (fun od H7 u7 hd7 => ?_)
  have nxd : dl ≠ x := fun q => by rw [q, hx6] at hd6; cases hd6
  have hx7 := u7.at nxd.symm hx6
  have t7 : Same (hol N H6) (hol N H7) := u7.hol dN
  have ar7 := ar.mono t7
  have dm7 := u7.dom hd7 (B6.dm)
  have s06 : Same H H6 := (s03.trans s4).trans s46
  have hd0 := s06 _ _ hd
  rw [hd6] at hd0
  have hk : kvs6 = kvs := by cases hd0; rfl
  have fin : ∀ H', Same H7 H' → Same H (upd H' dl (.dK kvs6)) := fun H' s' => s06.trans (same_lock ((Upd.hol u7 (M := [dl]) (by simp)).trans (same_hol s')) hd6)
  clear hx hx1 hx3 hx4
  walk_at "g"
  walk_at "g"
  walk_at "g"
  walk_at "g"
  walk_at "g"
  refine w_itemsK hd7 ?_
  refine for_map (src_itemsD isd6 hd7) (fun i σ H' => ∃ (o4 o5 o6 : Option V), σ = [some (.ref x), some v, some v3, some (.ref y), o4, o5, o6] ∧ Same H7 H' ∧ ∀ e ∈ p.lim.take i, ∀ v, t e.1 = some v → v ≤ e.2) ⟨none, none, none, rfl, Same.refl _, by simp⟩ (fun j σ H' p => ?_) (fun j a z σ H8 H9 ha q s89 isz => ?_) (fun σ H8 q => ?_)
  · obtain ⟨_, _, _, _, s6, _⟩ := p
    exact s6
  · obtain ⟨o4, o5, o6, rfl, s8, hle⟩ := q
    have isz := isz [] .nil s8
    have dm9 := (dm7.mono s8).mono s89
    have am : a ∈ p.lim := List.mem_of_getElem? ha
    have tk : p.lim.take (j + 1) = p.lim.take j ++ [a] := by rw [List.take_add_one, ha]; rfl
    refine g_tupT (Sg.cur []) isz rfl (fun xs hxs => ?_)
    obtain ⟨w1, rr, rfl, i1, hrr⟩ := hxs.cons_inv
    obtain ⟨w2, rr, rfl, i2, hrr⟩ := hrr.cons_inv
    obtain rfl := hrr.nil_inv
    obtain rfl := i1.str_inv
    obtain rfl := i2.int_inv
    have ar9 := (ar7.mono (same_hol (s8.trans s89))).mono hol_le
    obtain ⟨dy', fsy, _, _, _, _, hy9, _, _, _, _, _, hlate, _⟩ := ar9.ex
    walk_at "gg"
    unfold b1_Search_can_meet
    walk_at "gg"
    refine g_methK hy9 hlate ?_
    walk_at "gg"
    refine ⟨y, a.1, _, t, rfl, ar9, S4, by rw [en]; exact P.hlim a.1 a.2 am, fun v9 H10 s10 is10 => ?_⟩
    have sA := (s8.trans s89).trans s10
    walk_at "gg"
    have is10 := is10 H10
    cases e : t a.1 with
    | none =>
      rw [e] at is10
      obtain rfl := is10.none_inv
      rw [decide_eq_true rfl]
      walk_at "gg"
      refine ⟨_, _, _, rfl, sA, fun q hq v hv => ?_⟩
      rw [tk] at hq
      rcases List.mem_append.mp hq with z | z
      · exact hle q z v hv
      · simp at z
        subst z
        rw [e] at hv
        cases hv
    | some i =>
      rw [e] at is10
      obtain rfl := is10.int_inv
      rw [decide_eq_false (by intro z; cases z)]
      walk_at "gg"
      by_cases hlt : a.2 < i
      · rw [decide_eq_true hlt]
        walk_at "gg"
        refine ⟨sA _ _ hd7, k false t _ (fin _ sA) lt' ⟨fun z => (nomatch z), fun wi => ?_⟩⟩
        have := wi a.1 a.2 am i e
        omega
      · rw [decide_eq_false hlt]
        walk_at "gg"
        refine ⟨_, _, _, rfl, sA, fun q hq v hv => ?_⟩
        rw [tk] at hq
        rcases List.mem_append.mp hq with z | z
        · exact hle q z v hv
        · simp at z
          subst z
          rw [e] at hv
          cases hv
          omega
  · obtain ⟨o4, o5, o6, rfl, s8, hle⟩ := q
    rw [List.take_length] at hle
    refine ⟨s8 _ _ hd7, ?_⟩
    walk_at "gg"
    exact k true t _ (fin _ s8) lt' ⟨fun _ n l hm v hv => hle (n, l) hm v hv, fun _ => rfl⟩
theorem ok_can_meet {P : Program} {w : World} {K : PySem.W.Frag} {mg : Str → Option Value} {base : Heap} {C CA : Addr} {f : Addr} {fd : FuncData} (F : Fun K "can_meet" "Search.can_meet" s_Search_can_meet f fd) (T : Bl mg) (A : SFld K C) (c1 : Mak P w K mg base 3 "Arrivals" CA (spArrInit CA)) (c2 : Met P w K mg base 4 CA "late" (spLate CA)) (c3 : Cal P w K mg base 1 "chosen_ranges" spChosenRanges) (c4 : Cal P w K mg base 1 "with_ranges" spWithRanges) : FnOk P w K mg base CX0 5 f fd ["self", "choice"] (spCanMeet C) :=
  F.ok sc_Search_can_meet (fun vs H Q E h => by
    obtain ⟨_, _, _, _, _, _, _, _, _, _, _, _, _, rfl, _⟩ := h
    rfl) fun cdv A' outer s H vs Q E hr h => ⟨_, dv_Search_can_meet T c1 c2 c3 c4 hr, r_can_meet A h⟩

end Sg
namespace Sg
open PySem PySem.Spec PyProof.Rows L2
local macro_rules | `(tactic| walk_at "ey") => `(tactic| first
  | exact Same.refl _
  | exact hol_le
  | assumption
  | (refine Same.on ?r (same_hol (H := ?b) ?h); (case h => assumption); walk_at "ey")
  | (refine Same.on ?r (Upd.hol (l := ?l) (H := ?b) ?h ?m); (case h => assumption); (case m => simp); walk_at "ey")
  | (refine Same.on ?r (weak1 (p := ?p) (A := ?b) ?n ?h); (case h => assumption); (case n => simp); walk_at "ey")
  | (refine Same.on (B := ?b) ?r ?h; (case h => assumption); walk_at "ey")
  | (refine Same.on ?r (same1 (A := ?b) ?h); (case h => assumption); walk_at "ey")
  | (refine Same.on ?r (same2 (A := ?b) ?h); (case h => assumption); walk_at "ey"))
local macro_rules | `(tactic| walk_at "ex") => `(tactic| first
  | exact Same.refl _
  | exact hol_le
  | assumption
  | (refine Same.on ?r (same_hol (H := ?b) ?h); (case h => assumption); walk_at "ex")
  | (refine Same.on ?r (Upd.hol (l := ?l) (H := ?b) ?h ?m); (case h => assumption); (case m => simp); walk_at "ex")
  | (refine Same.on ?r (weak1 (p := ?p) (A := ?b) ?n ?h); (case h => assumption); (case n => simp); walk_at "ex")
  | (refine Same.on (B := ?b) ?r ?h; (case h => assumption); walk_at "ex")
  | (refine Same.on ?r (same1 (A := ?b) ?h); (case h => assumption); walk_at "ex")
  | (refine Same.on ?r (same2 (A := ?b) ?h); (case h => assumption); walk_at "ex")
  | (refine Same.on ?r (hol_le (M := ?m)); walk_at "ey"))
local macro_rules | `(tactic| walk_at "dom") => `(tactic| first
  | assumption
  | exact Dom.nil
  | (refine Dom.mono (H := ?b) ?h ?d; (case h => assumption); walk_at "dom")
  | (refine dom_draw (p := ?p) (l := ?l) (ns := ?ns) (A := ?b) ?h ?c ?d; (case h => assumption); (case c => assumption); walk_at "dom")
  | (refine Dom.cons (o := ?o) ?h ?d; (case h => assumption); walk_at "dom")
  | (refine Dom.holm (A := ?b) (N := ?n) ?h ?d; (case h => assumption); walk_at "dom")
  | (refine Upd.dom (l := ?l) (H := ?b) (o := ?o) ?h ?e ?d; (case h => assumption); (case e => assumption); walk_at "dom"))
local macro_rules | `(tactic| walk_at "pl") => `(tactic| first
  | assumption
  | (refine Pl.same (A := ?b) ?s ?h; (case s => assumption); walk_at "pl"))
local macro_rules | `(tactic| walk_at "is") => `(tactic| first
  | assumption
  | exact Is.int _
  | exact Is.str _
  | exact Is.bl _
  | exact Is.non
  | (refine Is.mono (H := ?b) ?s ?h; (case h => assumption); walk_at "ex"))
local macro_rules | `(tactic| walk_at "isa") => `(tactic| first
  | exact IsA.nil
  | (refine IsA.cons (d := ?x) (ds := ?xs) ?a ?b; (case a => walk_at "is"); (case b => walk_at "isa"))
  | (refine IsA.mono (H := ?b) ?s ?h; (case h => assumption); walk_at "ex"))
local macro_rules | `(tactic| walk_at "at") => `(tactic| first
  | exact at0
  | exact at1
  | exact at2
  | exact at3
  | exact at4
  | (refine atM (a := ?a) ?h; (case h => assumption))
  | (refine atJ (a := ?a) ?h; (case h => assumption)))
local macro_rules | `(tactic| walk_at "sc") => `(tactic| (intro v hv; first
  | ((with_reducible have e := Is.int_inv hv); subst e; clear hv)
  | ((with_reducible have e := Is.str_inv hv); subst e; clear hv)
  | ((with_reducible have e := Is.bool_inv hv); subst e; clear hv)
  | ((with_reducible have e := Is.none_inv hv); subst e; clear hv)
  | skip))
local macro_rules | `(tactic| walk_at "g") => `(tactic| first
  | with_reducible refine g_seq ?_
  | with_reducible refine g_asg ?_
  | with_reducible refine g_ret ?_
  | with_reducible refine g_drop ?_
  | with_reducible refine g_ifS ?_
  | with_reducible refine g_next ?_
  | with_reducible refine g_break ?_
  | with_reducible refine g_for ?_
  | with_reducible refine g_op ?_
  | ((with_reducible refine g_var (v := ?v) ?h ?k); (case h => exact rfl))
  | with_reducible refine g_c ?_
  | with_reducible refine g_I0 ?_
  | with_reducible refine g_U ?_
  | with_reducible refine g_cons ?_
  | with_reducible refine g_nil ?_
  | with_reducible refine g_cb ?_
  | with_reducible refine g_call ?_
  | with_reducible refine g_test ?_
  | with_reducible refine g_bl ?_
  | with_reducible refine g_int ?_
  | with_reducible refine g_B ?_
  | ((with_reducible refine g_wipe ?e ?k); (case e => exact rfl))
  | with_reducible refine g_iteT ?_
  | with_reducible refine g_iteF ?_
  | with_reducible refine g_iteNT ?_
  | with_reducible refine g_iteNF ?_
  | with_reducible refine g_andK ?_
  | with_reducible refine g_orK ?_
  | with_reducible refine g_notK ?_
  | ((with_reducible refine w_tupK (B := ?b) (ds := ?ds) ?s ?h ?k); (case h => assumption); (case s => walk_at "ex"); intro a S)
  | ((with_reducible refine w_listK (B := ?b) (ds := ?ds) ?s ?h ?k); (case h => assumption); (case s => walk_at "ex"); intro a S)
  | ((with_reducible refine w_enumK (B := ?b) (ds := ?ds) ?s ?h ?k); (case h => assumption); (case s => walk_at "ex"); intro a S)
  | ((with_reducible refine w_enumTK (B := ?b) (ds := ?ds) ?s ?h ?k); (case h => assumption); (case s => walk_at "ex"); intro a S)
  | ((with_reducible refine w_zipK (B := ?b) (ds := ?ds) (es := ?es) ?s ?h ?h' ?k); (case h => assumption); (case h' => walk_at "is"); (case s => walk_at "ex"); intro a b S)
  | ((with_reducible refine w_zipMK (B := ?b) (ds := ?ds) (es := ?es) ?s ?h ?h' ?k); (case h => assumption); (case h' => walk_at "is"); (case s => walk_at "ex"); intro a b S)
  | ((with_reducible refine w_zipTK (B := ?b) (ds := ?ds) (es := ?es) ?s ?h ?h' ?k); (case h => assumption); (case h' => walk_at "is"); (case s => walk_at "ex"); intro a b S)
  | ((with_reducible refine g_listOf (M := ?m) (ds := ?ds) ?c ?d ?h ?k); (case c => assumption); (case d => walk_at "dom"); (case h => first | (refine Or.inl ?_; walk_at "is") | (refine Or.inr ?_; walk_at "is")); intro v H' hs hv)
  | ((with_reducible refine g_tupOf (M := ?m) (ds := ?ds) ?c ?d ?h ?k); (case c => assumption); (case d => walk_at "dom"); (case h => walk_at "is"); intro v H' hs hv)
  | ((with_reducible refine g_tupK (M := ?m) (ds := ?ds) ?c ?d ?h ?l ?k); (case c => assumption); (case d => walk_at "dom"); (case h => walk_at "isa"); (case l => (simp only [List.length_cons, List.length_nil]; omega)); intro v H' hs hv)
  | ((with_reducible refine g_tupT (M := ?m) (ds := ?ds) ?c ?h ?e ?k); (case c => assumption); (case h => walk_at "is"); (case e => rfl); intro xs hxs)
  | ((with_reducible refine g_fldK (C := ?c) (dx := ?dx) (fs := ?fs) (v := ?v) ?h ?cl ?na ?l ?k); (case h => assumption); (case cl => assumption); (case na => assumption); (case l => first | assumption | exact rfl))
  | ((with_reducible refine g_fldM (C := ?c) (dx := ?dx) (fs := ?fs) ?h ?cl ?na ?hl ?k); (case h => assumption); (case cl => assumption); (case na => assumption); (case hl => exact Nat.le_of_ble_eq_true rfl); intro H' u hx)
  | ((with_reducible refine g_ixM (xs := ?xs) (v := ?v) ?h ?e ?k); (case h => assumption); (case e => first | exact at0 | exact at1 | exact at2 | exact at3 | exact at4))
  | ((with_reducible refine g_lenM (xs := ?xs) ?h ?k); (case h => assumption))
  | ((with_reducible refine g_mul ?h ?k); (case h => decide))
  | ((with_reducible refine g_mod ?h ?k); (case h => first | decide | assumption | omega))
  | ((with_reducible refine g_div ?h ?l ?k); (case h => first | decide | assumption | omega); (case l => first | decide | assumption | omega))
  | ((with_reducible refine g_subM (xs := ?xs) (k := ?n) ?h ?j ?k); (case h => assumption); (case j => exact rfl); intro H' u hp)
  | ((with_reducible refine g_draw (l := ?l) (ns := ?ns) ?a ?b ?h ?k); (case a => first | decide | omega); (case b => first | decide | omega); (case h => walk_at "pl"); intro r H' h0 h1 hs pl)
  | ((with_reducible refine g_dgetS (v := ?v) (kvs := ?kvs) ?h ?e ?k); (case h => assumption); (case e => assumption))
  | with_reducible refine g_and ?_
  | with_reducible refine w_keys ?_
  | with_reducible refine w_rng3 ?_
  | with_reducible refine w_items ?_
  | with_reducible refine g_or ?_
  | with_reducible refine g_not ?_
  | with_reducible refine g_yes ?_
  | with_reducible refine g_tru ?_
  | with_reducible refine g_fld ?_
  | with_reducible refine g_meth ?_
  | with_reducible refine g_make ?_
  | with_reducible refine g_tupE ?_
  | with_reducible refine g_lstE ?_
  | with_reducible refine g_sl ?_
  | with_reducible refine g_part ?_
  | with_reducible refine g_nopart ?_
  | with_reducible refine g_bm ?_
  | with_reducible refine g_bm0 ?_
  | with_reducible refine g_if ?_
  | with_reducible refine g_un ?_
  | with_reducible refine g_isN ?_
  | with_reducible refine g_notN ?_
  | with_reducible refine g_andV ?_
  | with_reducible refine g_orV ?_
  | with_reducible refine g_notV ?_
  | with_reducible refine g_lc ?_
  | with_reducible refine g_dget ?_
  | with_reducible refine g_din ?_
  | with_reducible refine g_dnotin ?_
  | with_reducible refine g_fldS ?_
  | with_reducible refine g_dput ?_
  | with_reducible refine g_sub ?_
  | with_reducible refine g_consT ?_
  | with_reducible refine g_nilT ?_
  | ((with_reducible refine g_name (σ' := ?s) ?h ?k); (case h => (dsimp only [List.set]; exact rfl)))
  | with_reducible refine w_list ?_
  | with_reducible refine w_tup ?_
  | with_reducible refine w_rng1 ?_
  | with_reducible refine w_enumT ?_
  | with_reducible refine w_enum ?_
  | with_reducible refine w_zip ?_
  | with_reducible refine w_zipM ?_
  | with_reducible refine w_zipA ?_
  | with_reducible refine w_rng ?_
  | with_reducible refine g_int1 ?_
  | ((with_reducible refine g_ixT (M := ?m) (ds := ?ds) (d := ?d) ?c ?h ?e ?k); (case c => assumption); (case h => walk_at "is"); (case e => walk_at "at"); walk_at "sc")
  | ((with_reducible refine g_ixL (M := ?m) (ds := ?ds) (d := ?d) ?c ?h ?e ?k); (case c => assumption); (case h => walk_at "is"); (case e => walk_at "at"); walk_at "sc")
  | ((with_reducible refine g_lenL (M := ?m) (ds := ?ds) ?c ?h ?k); (case c => assumption); (case h => walk_at "is"))
  | ((with_reducible refine g_lenT (M := ?m) (ds := ?ds) ?c ?h ?k); (case c => assumption); (case h => walk_at "is")))
local macro_rules | `(tactic| walk_at "len") => `(tactic| ((try simp only [List.length_map, List.length_append, List.length_cons, List.length_nil, List.length_range, List.length_zip]); omega))
local macro_rules | `(tactic| walk_at "gg") => `(tactic| repeat walk_at "g")
def spUseless (C : Addr) : Sp := fun vs H Q _ => ∃ (N : List Addr) (x dx dl : Addr) (cv sv zv chv qv : V) (p : Prob) (o : Option (Int × List Nat)) (g k : Nat) (r : List Size), vs = [.ref x, .int ((g : Nat) : Int), .int ((k : Nat) : Int)] ∧ SB C N x dx dl cv sv zv chv qv p o H ∧ POk p ∧ p.sizes[g]? = some r ∧ k < r.length ∧
  ∀ b H', Same H H' → (b = true ↔ Useless (rowOf r) k) → Q (.bl b) H'
theorem r_useless {K : PySem.W.Frag} {C : Addr} (A : SFld K C) {vs : List V} {H : Hp} {Q : VK} {E : XK} {n b c : L2.St → Hp → Prop} (h : spUseless C vs H Q E) : rd_Search_is_useless K ⟨n, Q, b, c⟩ (start N_Search_is_useless vs) H := by
  obtain ⟨N, x, dx, dl, cv, sv, zv, chv, qv, p, o, g, k, r, rfl, B, P, hr, hk, kk⟩ := h
  obtain ⟨cl, na1, na2, na3, na4, na5, na6, na7⟩ := A
  have cu := Sg.cur N
  obtain ⟨⟨bv, hx, isb⟩, xN, dN, dm, isc, iss, isz, isch, isq, kvs, hd, isd⟩ := B
  obtain ⟨gt, _, gl, wid⟩ := P.wid hr
  have rfew := P.Z.few r (List.mem_of_getElem? hr)
  have hs : r[k]? = some r[k] := List.getElem?_eq_getElem hk
  have sw := wid r[k] (List.getElem_mem hk)
  have hik : (rowOf r).hi k = (r[k]).2.map (·.2) := (row_at hs).2
  have hck : (rowOf r).cost k = (r[k]).1 := (row_at hs).1
  generalize r[k] = s at hs sw hik hck
  clear isc iss isch isq isb isd
  show rd_Search_is_useless K _ [some (.ref x), some (.int ((g : Nat) : Int)), some (.int ((k : Nat) : Int)), none, none, none, none, none, none, none, none, none] H
  unfold rd_Search_is_useless
  walk_at "gg"
  rename_i xs hxs
  obtain ⟨w1, rr, rfl, i1, hrr⟩ := hxs.cons_inv
  obtain ⟨w2, rr, rfl, i2, hrr⟩ := hrr.cons_inv
  obtain rfl := hrr.nil_inv
  obtain rfl := i1.int_inv
  walk_at "gg"
  refine lc_map ‹Src _ _ (s.2.map encP)› (fun q : Int × Int => some (.int q.2)) cu dm (Same.refl _) (by omega) (fun j q y2 L2 H4 Y2 No2 hd2 cu dm4 sM2 s02 isy2 kY2 kN2 => ?_) (fun v3 H3 s3 is3 => ?_)
  · show gTup K 2 _ y2 [some (.ref x), some (.int ((g : Nat) : Int)), some (.int ((k : Nat) : Int)), none, some (.int s.1), some w2, none, none, none, none, none, none] H4 _
    walk_at "g"
    rename_i xs hxs
    obtain ⟨w3, rr, rfl, j1, hrr⟩ := hxs.cons_inv
    obtain ⟨w4, rr, rfl, j2, hrr⟩ := hrr.cons_inv
    obtain rfl := hrr.nil_inv
    obtain rfl := j2.int_inv
    walk_at "gg"
    exact kY2 _ _ _ (Same.refl _) (Is.int _) rfl
  rw [fm_some] at is3
  have e3 : (s.2.map fun q : Int × Int => PyData.int q.2) = (s.2.map (·.2)).map PyData.int := by rw [List.map_map]; rfl
  rw [e3] at is3
  have hx3 := s3 _ _ hx
  have isz3 := isz.mono (same_hol s3)
  have dm3 := dm.mono s3
  clear isz hx
  walk_at "gg"
  refine for_map (src_enum_map (g := encS) (m := r) ‹Src (Ite _ _) _ _›) (fun i σ H' => ∃ (o6 o7 o8 o9 o10 o11 : Option V), σ = [some (.ref x), some (.int ((g : Nat) : Int)), some (.int ((k : Nat) : Int)), some v3, some (.int s.1), some w2, o6, o7, o8, o9, o10, o11] ∧ Same H3 H' ∧
    ∀ j, j < i → j < r.length → ¬ ((rowOf r).hi j = (rowOf r).hi k ∧ ((rowOf r).cost j < (rowOf r).cost k ∨ ((rowOf r).cost j = (rowOf r).cost k ∧ j < k)))) ⟨none, none, none, none, _, _, rfl, Same.refl _, fun j hj => absurd hj (Nat.not_lt_zero _)⟩ (fun j σ H' p => ?_) (fun i a z σ H8 H9 ha q s89 isy => ?_) (fun σ H8 q => ?_)
  · obtain ⟨_, _, _, _, _, _, _, s6, _⟩ := p
    walk_at "ex"
  · obtain ⟨o6, o7, o8, o9, o10, o11, rfl, s8, hno⟩ := q
    obtain ⟨ea, eg⟩ := enum_get ha
    have isy := isy N (dm3.mono s8) (by walk_at "ex")
    have dm9 := dm3.mono (s8.trans s89)
    have is39 := is3.mono (same_hol (s8.trans s89))
    have aw := wid a.2 (List.mem_of_getElem? eg)
    have hia : (rowOf r).hi i = a.2.2.map (·.2) := (row_at eg).2
    have hca : (rowOf r).cost i = a.2.1 := (row_at eg).1
    walk_at "g"
    rename_i xs hxs
    obtain ⟨w3, rr, rfl, j1, hrr⟩ := hxs.cons_inv
    obtain ⟨w4, rr, rfl, j2, hrr⟩ := hrr.cons_inv
    obtain rfl := hrr.nil_inv
    obtain rfl := j1.int_inv
    rw [ea]
    walk_at "gg"
    rename_i xs hxs
    obtain ⟨w5, rr, rfl, j3, hrr⟩ := hxs.cons_inv
    obtain ⟨w6, rr, rfl, j4, hrr⟩ := hrr.cons_inv
    obtain rfl := hrr.nil_inv
    obtain rfl := j3.int_inv
    walk_at "gg"
    unfold b1_Search_is_useless
    walk_at "gg"
    refine lc_map ‹Src _ _ (a.2.2.map encP)› (fun q : Int × Int => some (.int q.2)) cu dm9 (Same.refl _) (by omega) (fun j q y2 L2 H4 Y2 No2 hd2 cu dm4 sM2 s02 isy2 kY2 kN2 => ?_) (fun v7 H10 s10 is7 => ?_)
    · show gTup K 2 _ y2 [some (.ref x), some (.int ((g : Nat) : Int)), some (.int ((k : Nat) : Int)), some v3, some (.int s.1), some w2, some (.int ((i : Nat) : Int)), o7, some (.int a.2.1), some w6, none, none] H4 _
      walk_at "g"
      rename_i xs hxs
      obtain ⟨w7, rr, rfl, j5, hrr⟩ := hxs.cons_inv
      obtain ⟨w8, rr, rfl, j6, hrr⟩ := hrr.cons_inv
      obtain rfl := hrr.nil_inv
      obtain rfl := j6.int_inv
      walk_at "gg"
      exact kY2 _ _ _ (Same.refl _) (Is.int _) rfl
    rw [fm_some] at is7
    have e7 : (a.2.2.map fun q : Int × Int => PyData.int q.2) = (a.2.2.map (·.2)).map PyData.int := by rw [List.map_map]; rfl
    rw [e7] at is7
    have is310 := is39.mono (same_hol s10)
    walk_at "gg"
    refine g_eqD (n := 1) (m := 1) cu is7 is310 (Cmp.lst Cmp.int _) (Cmp.lst Cmp.int _) (by decide) (by decide) ?_
    rw [eqv_ints, ← hia, ← hik]
    have sA := (s8.trans s89).trans s10
    have skip : (¬ ((rowOf r).hi i = (rowOf r).hi k ∧ ((rowOf r).cost i < (rowOf r).cost k ∨ ((rowOf r).cost i = (rowOf r).cost k ∧ i < k)))) → ∀ j, j < i + 1 → j < r.length → ¬ ((rowOf r).hi j = (rowOf r).hi k ∧ ((rowOf r).cost j < (rowOf r).cost k ∨ ((rowOf r).cost j = (rowOf r).cost k ∧ j < k))) := fun hn j hj hjr => by
      by_cases z : j = i
      · rw [z]; exact hn
      · exact hno j (by omega) hjr
    have il := (List.getElem?_eq_some_iff.mp eg).1
    have use : ((rowOf r).hi i = (rowOf r).hi k ∧ ((rowOf r).cost i < (rowOf r).cost k ∨ ((rowOf r).cost i = (rowOf r).cost k ∧ i < k))) → Useless (rowOf r) k := fun hu => ⟨i, by unfold rowOf; rw [List.length_map]; exact il, hu⟩
    rw [hca, hck] at use
    have skip := fun (h : ¬ ((rowOf r).hi i = (rowOf r).hi k ∧ (a.2.1 < s.1 ∨ (a.2.1 = s.1 ∧ i < k)))) => skip (by rw [hca, hck]; exact h)
    walk_at "gg"
    by_cases hh : (rowOf r).hi i = (rowOf r).hi k
    · rw [decide_eq_true hh]
      walk_at "gg"
      by_cases h1 : a.2.1 < s.1
      · rw [decide_eq_true h1]
        walk_at "gg"
        exact kk true _ (s3.trans sA) ⟨fun _ => use ⟨hh, .inl h1⟩, fun _ => rfl⟩
      · rw [decide_eq_false h1]
        walk_at "gg"
        refine g_eq rfl ?_
        walk_at "gg"
        by_cases h2 : a.2.1 = s.1
        · rw [decide_eq_true (by rw [h2])]
          walk_at "gg"
          by_cases h3 : i < k
          · rw [decide_eq_true (by omega)]
            walk_at "gg"
            exact kk true _ (s3.trans sA) ⟨fun _ => use ⟨hh, .inr ⟨h2, h3⟩⟩, fun _ => rfl⟩
          · rw [decide_eq_false (by omega)]
            walk_at "gg"
            exact ⟨_, _, _, _, _, _, rfl, sA, skip (by omega)⟩
        · rw [decide_eq_false (by intro z; exact h2 (V.int.inj z))]
          walk_at "gg"
          exact ⟨_, _, _, _, _, _, rfl, sA, skip (by omega)⟩
    · rw [decide_eq_false hh]
      walk_at "gg"
      exact ⟨_, _, _, _, _, _, rfl, sA, skip (fun z => hh z.1)⟩
  · obtain ⟨o6, o7, o8, o9, o10, o11, rfl, s8, hno⟩ := q
    walk_at "gg"
    refine kk false _ (s3.trans s8) ⟨fun z => (nomatch z), fun hu => ?_⟩
    obtain ⟨j, hj, hu⟩ := hu
    unfold rowOf at hj
    rw [List.length_map] at hj
    refine absurd hu (hno j ?_ hj)
    rw [List.length_zip, List.length_range]
    omega
theorem ok_useless {P : Program} {w : World} {K : PySem.W.Frag} {mg : Str → Option Value} {base : Heap} {C : Addr} {f : Addr} {fd : FuncData} (F : Fun K "is_useless" "Search.is_useless" s_Search_is_useless f fd) (T : Bl mg) (A : SFld K C) : FnOk P w K mg base CX0 1 f fd ["self", "gate", "k"] (spUseless C) :=
  F.ok sc_Search_is_useless (fun vs H Q E h => by
    obtain ⟨_, _, _, _, _, _, _, _, _, _, _, _, _, _, rfl, _⟩ := h
    rfl) fun cdv A' outer s H vs Q E hr h => ⟨_, dv_Search_is_useless T hr, r_useless A h⟩

end Sg
namespace Sg
open PySem PySem.Spec PyProof.Rows L2
local macro_rules | `(tactic| walk_at "ey") => `(tactic| first
  | exact Same.refl _
  | exact hol_le
  | assumption
  | (refine Same.on ?r (same_hol (H := ?b) ?h); (case h => assumption); walk_at "ey")
  | (refine Same.on ?r (Upd.hol (l := ?l) (H := ?b) ?h ?m); (case h => assumption); (case m => simp); walk_at "ey")
  | (refine Same.on ?r (weak1 (p := ?p) (A := ?b) ?n ?h); (case h => assumption); (case n => simp); walk_at "ey")
  | (refine Same.on (B := ?b) ?r ?h; (case h => assumption); walk_at "ey")
  | (refine Same.on ?r (same1 (A := ?b) ?h); (case h => assumption); walk_at "ey")
  | (refine Same.on ?r (same2 (A := ?b) ?h); (case h => assumption); walk_at "ey"))
local macro_rules | `(tactic| walk_at "ex") => `(tactic| first
  | exact Same.refl _
  | exact hol_le
  | assumption
  | (refine Same.on ?r (same_hol (H := ?b) ?h); (case h => assumption); walk_at "ex")
  | (refine Same.on ?r (Upd.hol (l := ?l) (H := ?b) ?h ?m); (case h => assumption); (case m => simp); walk_at "ex")
  | (refine Same.on ?r (weak1 (p := ?p) (A := ?b) ?n ?h); (case h => assumption); (case n => simp); walk_at "ex")
  | (refine Same.on (B := ?b) ?r ?h; (case h => assumption); walk_at "ex")
  | (refine Same.on ?r (same1 (A := ?b) ?h); (case h => assumption); walk_at "ex")
  | (refine Same.on ?r (same2 (A := ?b) ?h); (case h => assumption); walk_at "ex")
  | (refine Same.on ?r (hol_le (M := ?m)); walk_at "ey"))
local macro_rules | `(tactic| walk_at "dom") => `(tactic| first
  | assumption
  | exact Dom.nil
  | (refine Dom.mono (H := ?b) ?h ?d; (case h => assumption); walk_at "dom")
  | (refine dom_draw (p := ?p) (l := ?l) (ns := ?ns) (A := ?b) ?h ?c ?d; (case h => assumption); (case c => assumption); walk_at "dom")
  | (refine Dom.cons (o := ?o) ?h ?d; (case h => assumption); walk_at "dom")
  | (refine Dom.holm (A := ?b) (N := ?n) ?h ?d; (case h => assumption); walk_at "dom")
  | (refine Upd.dom (l := ?l) (H := ?b) (o := ?o) ?h ?e ?d; (case h => assumption); (case e => assumption); walk_at "dom"))
local macro_rules | `(tactic| walk_at "pl") => `(tactic| first
  | assumption
  | (refine Pl.same (A := ?b) ?s ?h; (case s => assumption); walk_at "pl"))
local macro_rules | `(tactic| walk_at "is") => `(tactic| first
  | assumption
  | exact Is.int _
  | exact Is.str _
  | exact Is.bl _
  | exact Is.non
  | (refine Is.mono (H := ?b) ?s ?h; (case h => assumption); walk_at "ex"))
local macro_rules | `(tactic| walk_at "isa") => `(tactic| first
  | exact IsA.nil
  | (refine IsA.cons (d := ?x) (ds := ?xs) ?a ?b; (case a => walk_at "is"); (case b => walk_at "isa"))
  | (refine IsA.mono (H := ?b) ?s ?h; (case h => assumption); walk_at "ex"))
local macro_rules | `(tactic| walk_at "at") => `(tactic| first
  | exact at0
  | exact at1
  | exact at2
  | exact at3
  | exact at4
  | (refine atM (a := ?a) ?h; (case h => assumption))
  | (refine atJ (a := ?a) ?h; (case h => assumption)))
local macro_rules | `(tactic| walk_at "sc") => `(tactic| (intro v hv; first
  | ((with_reducible have e := Is.int_inv hv); subst e; clear hv)
  | ((with_reducible have e := Is.str_inv hv); subst e; clear hv)
  | ((with_reducible have e := Is.bool_inv hv); subst e; clear hv)
  | ((with_reducible have e := Is.none_inv hv); subst e; clear hv)
  | skip))
local macro_rules | `(tactic| walk_at "g") => `(tactic| first
  | with_reducible refine g_seq ?_
  | with_reducible refine g_asg ?_
  | with_reducible refine g_ret ?_
  | with_reducible refine g_drop ?_
  | with_reducible refine g_ifS ?_
  | with_reducible refine g_next ?_
  | with_reducible refine g_break ?_
  | with_reducible refine g_for ?_
  | with_reducible refine g_op ?_
  | ((with_reducible refine g_var (v := ?v) ?h ?k); (case h => exact rfl))
  | with_reducible refine g_c ?_
  | with_reducible refine g_I0 ?_
  | with_reducible refine g_U ?_
  | with_reducible refine g_cons ?_
  | with_reducible refine g_nil ?_
  | with_reducible refine g_cb ?_
  | with_reducible refine g_call ?_
  | with_reducible refine g_test ?_
  | with_reducible refine g_bl ?_
  | with_reducible refine g_int ?_
  | with_reducible refine g_B ?_
  | ((with_reducible refine g_wipe ?e ?k); (case e => exact rfl))
  | with_reducible refine g_iteT ?_
  | with_reducible refine g_iteF ?_
  | with_reducible refine g_iteNT ?_
  | with_reducible refine g_iteNF ?_
  | with_reducible refine g_andK ?_
  | with_reducible refine g_orK ?_
  | with_reducible refine g_notK ?_
  | ((with_reducible refine w_tupK (B := ?b) (ds := ?ds) ?s ?h ?k); (case h => assumption); (case s => walk_at "ex"); intro a S)
  | ((with_reducible refine w_listK (B := ?b) (ds := ?ds) ?s ?h ?k); (case h => assumption); (case s => walk_at "ex"); intro a S)
  | ((with_reducible refine w_enumK (B := ?b) (ds := ?ds) ?s ?h ?k); (case h => assumption); (case s => walk_at "ex"); intro a S)
  | ((with_reducible refine w_enumTK (B := ?b) (ds := ?ds) ?s ?h ?k); (case h => assumption); (case s => walk_at "ex"); intro a S)
  | ((with_reducible refine w_zipK (B := ?b) (ds := ?ds) (es := ?es) ?s ?h ?h' ?k); (case h => assumption); (case h' => walk_at "is"); (case s => walk_at "ex"); intro a b S)
  | ((with_reducible refine w_zipMK (B := ?b) (ds := ?ds) (es := ?es) ?s ?h ?h' ?k); (case h => assumption); (case h' => walk_at "is"); (case s => walk_at "ex"); intro a b S)
  | ((with_reducible refine w_zipTK (B := ?b) (ds := ?ds) (es := ?es) ?s ?h ?h' ?k); (case h => assumption); (case h' => walk_at "is"); (case s => walk_at "ex"); intro a b S)
  | ((with_reducible refine g_listOf (M := ?m) (ds := ?ds) ?c ?d ?h ?k); (case c => assumption); (case d => walk_at "dom"); (case h => first | (refine Or.inl ?_; walk_at "is") | (refine Or.inr ?_; walk_at "is")); intro v H' hs hv)
  | ((with_reducible refine g_tupOf (M := ?m) (ds := ?ds) ?c ?d ?h ?k); (case c => assumption); (case d => walk_at "dom"); (case h => walk_at "is"); intro v H' hs hv)
  | ((with_reducible refine g_tupK (M := ?m) (ds := ?ds) ?c ?d ?h ?l ?k); (case c => assumption); (case d => walk_at "dom"); (case h => walk_at "isa"); (case l => (simp only [List.length_cons, List.length_nil]; omega)); intro v H' hs hv)
  | ((with_reducible refine g_tupT (M := ?m) (ds := ?ds) ?c ?h ?e ?k); (case c => assumption); (case h => walk_at "is"); (case e => rfl); intro xs hxs)
  | ((with_reducible refine g_fldK (C := ?c) (dx := ?dx) (fs := ?fs) (v := ?v) ?h ?cl ?na ?l ?k); (case h => assumption); (case cl => assumption); (case na => assumption); (case l => first | assumption | exact rfl))
  | ((with_reducible refine g_fldM (C := ?c) (dx := ?dx) (fs := ?fs) ?h ?cl ?na ?hl ?k); (case h => assumption); (case cl => assumption); (case na => assumption); (case hl => exact Nat.le_of_ble_eq_true rfl); intro H' u hx)
  | ((with_reducible refine g_ixM (xs := ?xs) (v := ?v) ?h ?e ?k); (case h => assumption); (case e => first | exact at0 | exact at1 | exact at2 | exact at3 | exact at4))
  | ((with_reducible refine g_lenM (xs := ?xs) ?h ?k); (case h => assumption))
  | ((with_reducible refine g_mul ?h ?k); (case h => decide))
  | ((with_reducible refine g_mod ?h ?k); (case h => first | decide | assumption | omega))
  | ((with_reducible refine g_div ?h ?l ?k); (case h => first | decide | assumption | omega); (case l => first | decide | assumption | omega))
  | ((with_reducible refine g_subM (xs := ?xs) (k := ?n) ?h ?j ?k); (case h => assumption); (case j => exact rfl); intro H' u hp)
  | ((with_reducible refine g_draw (l := ?l) (ns := ?ns) ?a ?b ?h ?k); (case a => first | decide | omega); (case b => first | decide | omega); (case h => walk_at "pl"); intro r H' h0 h1 hs pl)
  | ((with_reducible refine g_dgetS (v := ?v) (kvs := ?kvs) ?h ?e ?k); (case h => assumption); (case e => assumption))
  | with_reducible refine g_and ?_
  | with_reducible refine w_keys ?_
  | with_reducible refine w_rng3 ?_
  | with_reducible refine w_items ?_
  | with_reducible refine g_or ?_
  | with_reducible refine g_not ?_
  | with_reducible refine g_yes ?_
  | with_reducible refine g_tru ?_
  | with_reducible refine g_fld ?_
  | with_reducible refine g_meth ?_
  | with_reducible refine g_make ?_
  | with_reducible refine g_tupE ?_
  | with_reducible refine g_lstE ?_
  | with_reducible refine g_sl ?_
  | with_reducible refine g_part ?_
  | with_reducible refine g_nopart ?_
  | with_reducible refine g_bm ?_
  | with_reducible refine g_bm0 ?_
  | with_reducible refine g_if ?_
  | with_reducible refine g_un ?_
  | with_reducible refine g_isN ?_
  | with_reducible refine g_notN ?_
  | with_reducible refine g_andV ?_
  | with_reducible refine g_orV ?_
  | with_reducible refine g_notV ?_
  | with_reducible refine g_lc ?_
  | with_reducible refine g_dget ?_
  | with_reducible refine g_din ?_
  | with_reducible refine g_dnotin ?_
  | with_reducible refine g_fldS ?_
  | with_reducible refine g_dput ?_
  | with_reducible refine g_sub ?_
  | with_reducible refine g_consT ?_
  | with_reducible refine g_nilT ?_
  | ((with_reducible refine g_name (σ' := ?s) ?h ?k); (case h => (dsimp only [List.set]; exact rfl)))
  | with_reducible refine w_list ?_
  | with_reducible refine w_tup ?_
  | with_reducible refine w_rng1 ?_
  | with_reducible refine w_enumT ?_
  | with_reducible refine w_enum ?_
  | with_reducible refine w_zip ?_
  | with_reducible refine w_zipM ?_
  | with_reducible refine w_zipA ?_
  | with_reducible refine w_rng ?_
  | with_reducible refine g_int1 ?_
  | ((with_reducible refine g_ixT (M := ?m) (ds := ?ds) (d := ?d) ?c ?h ?e ?k); (case c => assumption); (case h => walk_at "is"); (case e => walk_at "at"); walk_at "sc")
  | ((with_reducible refine g_ixL (M := ?m) (ds := ?ds) (d := ?d) ?c ?h ?e ?k); (case c => assumption); (case h => walk_at "is"); (case e => walk_at "at"); walk_at "sc")
  | ((with_reducible refine g_lenL (M := ?m) (ds := ?ds) ?c ?h ?k); (case c => assumption); (case h => walk_at "is"))
  | ((with_reducible refine g_lenT (M := ?m) (ds := ?ds) ?c ?h ?k); (case c => assumption); (case h => walk_at "is")))
local macro_rules | `(tactic| walk_at "len") => `(tactic| ((try simp only [List.length_map, List.length_append, List.length_cons, List.length_nil, List.length_range, List.length_zip]); omega))
local macro_rules | `(tactic| walk_at "gg") => `(tactic| repeat walk_at "g")
theorem IsA.snoc_inv {H : Hp} {d : PyData} : ∀ {ds : List PyData} {vs : List V}, IsA H (ds ++ [d]) vs → ∃ ws v, vs = ws ++ [v] ∧ IsA H ds ws ∧ Is H d v
  | [], vs, h => by
    obtain ⟨v, r, rfl, h1, h2⟩ := IsA.cons_inv h
    obtain rfl := h2.nil_inv
    exact ⟨[], v, rfl, .nil, h1⟩
  | e :: ds, vs, h => by
    obtain ⟨v, r, rfl, h1, h2⟩ := IsA.cons_inv (show IsA H (e :: (ds ++ [d])) vs from h)
    obtain ⟨ws, w, rfl, h3, h4⟩ := IsA.snoc_inv h2
    exact ⟨v :: ws, w, rfl, .cons h1 h3, h4⟩
theorem SB.ne {C : Addr} {N : List Addr} {x dx dl : Addr} {cv sv zv chv qv : V} {p : Prob} {o : Option (Int × List Nat)} {A : Hp} (h : SB C N x dx dl cv sv zv chv qv p o A) : x ≠ dl := fun q => by
  obtain ⟨bv, h1, _⟩ := h.hx
  obtain ⟨kvs, h2, _⟩ := h.hd
  rw [q, h2] at h1
  cases h1
theorem SB.best {C : Addr} {N : List Addr} {x dx dl : Addr} {cv sv zv chv qv : V} {p : Prob} {o o' : Option (Int × List Nat)} {A B : Hp} {bv : V} (h : SB C N x dx dl cv sv zv chv qv p o A) (u : Upd x A B) (hx : B x = some (.ins C dx (fsS cv sv dl zv bv chv qv))) (isb : Is (hol N A) (encB o') bv) :
    SB C N x dx dl cv sv zv chv qv p o' B := by
  have ne := h.ne
  obtain ⟨_, h3, h4, h5, h6, h7, h8, h9, h10, ⟨kvs, h11, h12⟩⟩ := h
  have t : Same (hol N A) (hol N B) := u.hol h3
  exact ⟨⟨bv, hx, isb.mono t⟩, h3, h4, u.dom hx h5, h6.mono t, h7.mono t, h8.mono t, h9.mono t, h10.mono t, ⟨kvs, u.at ne.symm h11, h12.mono t⟩⟩
def Fz (p : Prob) : List (List Int) → Prop := Feas (srcL p.c p.st) (gsL p.c) p.lim
theorem POk.quick {p : Prob} (P : POk p) : QuickOk (rowsOf p.sizes) ((p.sizes.map quickR).map fun q => q.map (·.2)) := quick_ok fun r hr => by
  obtain ⟨i, hi⟩ := List.getElem?_of_mem hr
  obtain ⟨g, _, _, h⟩ := P.wid hi
  exact ⟨_, h⟩
theorem rowsOf_len (s : List (List Size)) : (rowsOf s).length = s.length := by unfold rowsOf; rw [List.length_map]
theorem hiP_len {p : Prob} {ch : List Nat} (h : Chs p ch) : (hiP p ch).length = p.sizes.length := by
  rw [← rowsP_hi h, List.length_map, rowsP_len h]
theorem POk.mono {p : Prob} (P : POk p) {ch q : List Nat} (h : Chs p ch) {t : Str → Option Int} (lt : Late (srcL p.c p.st) (gsL p.c) (hiP p ch) t) (hf : Full (rowsOf p.sizes) (ch ++ q)) (F : Fz p (hiOf (rowsOf p.sizes) (ch ++ q))) : Within p.lim t := by
  obtain ⟨r, hr⟩ := P.S.ranked p.st P.hl
  refine feas_mono hr ?_ (hi_le P.quick hf) (fun n l hm => ?_) lt F
  · have := hiP_len h
    unfold hiP at this
    rw [this, P.Z.len]
    unfold gsL
    rw [List.length_map]
    exact Nat.le_refl _
  · have := P.hlim n l hm
    unfold nets at this
    rcases List.mem_append.mp this with q | q
    · left
      obtain ⟨i, hi⟩ := List.getElem?_of_mem q
      have hi' := (List.getElem?_eq_some_iff.mp hi).1
      refine ⟨(p.st.map (·.2))[i]'(by rw [List.length_map, P.hl]; exact hi'), ?_⟩
      refine List.mem_of_getElem? (i := i) ?_
      unfold srcL
      rw [List.getElem?_zip_eq_some]
      exact ⟨hi, List.getElem?_eq_getElem _⟩
    · right
      obtain ⟨g, hg, rfl⟩ := List.mem_map.mp q
      exact ⟨g.nets, List.mem_map.mpr ⟨g, hg, rfl⟩⟩
theorem hiP_full {p : Prob} {ch : List Nat} (h : ch.length = p.sizes.length) : hiP p ch = hiOf (rowsOf p.sizes) ch := by
  unfold hiP hiPart
  rw [List.drop_of_length_le (by rw [List.length_map, List.length_map, h]; exact Nat.le_refl _), List.append_nil]
theorem weigh_len (B n : Nat) : ∀ s : List (List Nat), s.length ≤ weigh B n s
  | [] => Nat.zero_le _
  | a :: s => by
    have ih := weigh_len B n s
    have := wt_pos B (n - a.length)
    unfold weigh at ih ⊢
    rw [List.map_cons, List.sum_cons, List.length_cons]
    omega
def spTryAll (C : Addr) : Sp := fun vs H Q _ => ∃ (N : List Addr) (x dx dl : Addr) (cv sv zv chv qv : V) (p : Prob), vs = [.ref x] ∧ SB C N x dx dl cv sv zv chv qv p none H ∧ POk p ∧
  ∀ o H', Same (hol [x] H) (hol [x] H') → SB C N x dx dl cv sv zv chv qv p o H' → Best (rowsOf p.sizes) (Fz p) o → Q .non H'
theorem SB.less {C : Addr} {N : List Addr} {L x dx dl : Addr} {cv sv zv chv qv : V} {p : Prob} {o : Option (Int × List Nat)} {A : Hp} (h : SB C (L :: N) x dx dl cv sv zv chv qv p o A) (xN : x ∈ N) (dN : dl ∈ N) : SB C N x dx dl cv sv zv chv qv p o A := by
  obtain ⟨⟨bv, g1, g2⟩, h3, h4, h5, h6, h7, h8, h9, h10, ⟨kvs, h11, h12⟩⟩ := h
  have t : Same (hol (L :: N) A) (hol N A) := hol_sub
  exact ⟨⟨bv, g1, g2.mono t⟩, xN, dN, fun m hm => h5 m (List.mem_cons_of_mem _ hm), h6.mono t, h7.mono t, h8.mono t, h9.mono t, h10.mono t, ⟨kvs, h11, h12.mono t⟩⟩
theorem r_try_all {K : PySem.W.Frag} {C : Addr} (A : SFld K C) {vs : List V} {H : Hp} {Q : VK} {E : XK} {b c : L2.St → Hp → Prop} (h : spTryAll C vs H Q E) : rd_Search_try_all K C (spCanMeet C) (spUseless C) spTotalCost ⟨fun _ H' => Q .non H', Q, b, c⟩ (start N_Search_try_all vs) H := by
  obtain ⟨N, x, dx, dl, cv, sv, zv, chv, qv, p, rfl, B, P, k⟩ := h
  obtain ⟨cl, na1, na2, na3, na4, na5, na6, na7⟩ := A
  have cu := Sg.cur N
  obtain ⟨Bd, hBd, hwt⟩ := P.bnd
  have few := P.few
  have dm := B.dm
  have xN := B.xN
  have dN := B.dN
  show rd_Search_try_all K _ _ _ _ _ [some (.ref x), none, none, none, none] H
  unfold rd_Search_try_all
  walk_at "gg"
  refine g_lstK cu dm (ds := []) .nil (by decide) (fun v0 H1 s1 is1 => ?_)
  walk_at "gg"
  refine g_lstM cu (by simp) (fun L H2 hL s2 hL2 s2' s2'' => ?_)
  have B2 := (B.same s1).more s2 s2' hL2
  have nLx : L ≠ x := fun q => by
    obtain ⟨bv, hx, _⟩ := B.hx
    rw [q, s1 _ _ hx] at hL
    cases hL
  have nLd : L ≠ dl := fun q => by
    obtain ⟨kvs, hd, _⟩ := B.hd
    rw [q, s1 _ _ hd] at hL
    cases hL
  walk_at "gg"
  clear cu
  have cu := Sg.cur (L :: N)
  refine g_while (fun m σ H' => ∃ (stack : List (List Nat)) (o : Option (Int × List Nat)) (xs : List V) (o2 o3 o4 : Option V), m = weigh Bd p.sizes.length stack ∧ m < 50000 ∧ σ = [some (.ref x), some (.ref L), o2, o3, o4] ∧ H' L = some (.lst xs) ∧ IsA (hol (L :: N) H') (stack.map encCh) xs ∧
    SB C (L :: N) x dx dl cv sv zv chv qv p o H' ∧ SInv (rowsOf p.sizes) (Fz p) stack o ∧ Same (hol [x] H) (hol [L, x] H')) (weigh Bd p.sizes.length [[]]) ⟨[[]], none, [v0], none, none, none, rfl, ?_, rfl, hL2, ?_, B2, SInv.start _ _, ?_⟩ ?_
  · unfold weigh
    simpa using hwt
  · exact .cons (is1.mono s2') .nil
  · exact (same_hol (M := [x]) s1).trans (same_hol (M := [x]) s2'')
  rintro m σ H3 ⟨stack, o, xs, o2, o3, o4, hm, hm5, rfl, hL3, isx, B3, I3, s3⟩
  walk_at "g"
  walk_at "g"
  rcases List.eq_nil_or_concat stack with rfl | ⟨s, ch, rfl⟩
  · obtain rfl := IsA.nil_inv isx
    refine ⟨false, .inl ⟨_, .inl (.inl hL3), rfl⟩, g_whF ?_⟩
    refine k o H3 (s3.trans (hol_sub (L := L) (M := [x]))) (B3.less xN dN) (I3.done fun r hr j hj => ?_)
    obtain ⟨r', hr', rfl⟩ := List.mem_map.mp hr
    unfold rowOf at hj
    rw [List.length_map] at hj
    rw [(row_at (List.getElem?_eq_getElem hj)).1]
    exact P.Z.cost r' hr' _ (List.getElem_mem hj)
  rw [List.concat_eq_append] at hm isx I3
  have hch : Chs p ch := I3.pre ch (by simp)
  have chl := hch.len
  rw [List.map_append] at isx
  obtain ⟨ys, v, rfl, isy, isv⟩ := IsA.snoc_inv isx
  refine ⟨true, .inl ⟨_, .inl (.inl hL3), by simp⟩, g_whT ?_⟩
  have slen : s.length < 50000 := by
    have := weigh_len Bd p.sizes.length (s ++ [ch])
    rw [List.length_append] at this
    omega
  have yl := isy.len
  rw [List.length_map] at yl
  unfold b2_Search_try_all
  walk_at "gg"
  refine g_ty hL3 ?_
  refine g_popM hL3 (fun H4 u4 hL4 => ?_)
  have B4 := B3.upd u4 (by simp) nLx nLd hL4
  have isy4 := isy.mono (Upd.hol u4 (M := L :: N) (by simp))
  have isv4 := isv.mono (Upd.hol u4 (M := L :: N) (by simp))
  have s4 : Same (hol [x] H) (hol [L, x] H4) := s3.trans (u4.hol (by simp))
  obtain ⟨bv, hx4, isb4⟩ := B4.hx
  have isz4 := B4.isz
  have dm4 := B4.dm
  walk_at "gg"
  refine g_SpF cu (p.sizes, ch) dm4 (.cons isz4 (.cons isv4 .nil)) ⟨ChOk.of hch, few⟩ (fun d v1 H5 hd s5 is1 => ?_)
  dsimp only at hd
  subst hd
  obtain rfl := is1.int_inv
  rw [costR_eq hch]
  have B5 := B4.same s5
  have isv5 := isv4.mono (same_hol s5)
  have hx5 := s5 _ _ hx4
  have isch5 := B5.isch
  have dm5 := B5.dm
  clear isz4 dm4 isv hx4 hL3
  walk_at "gg"
  rw [List.length_map]
  refine g_slD cu dm5 isch5 (by rw [List.length_map, List.length_map]; exact chl) (fun v2 H6 s6 is6 => ?_)
  have isv6 := isv5.mono (same_hol s6)
  rw [← List.map_drop] at is6
  walk_at "gg"
  refine g_sum cu is6 ?_
  have B6 := B5.same s6
  obtain ⟨bv6, hx6, isb6⟩ := B6.hx
  have hL6 := (s5.trans s6) _ _ hL4
  have isy6 := isy4.mono (same_hol (s5.trans s6))
  have s06 : Same (hol [x] H) (hol [L, x] H6) := s4.trans (same_hol (M := [L, x]) (s5.trans s6))
  have dm6 := B6.dm
  have isz6 := B6.isz
  have hleast : costOf (rowsOf p.sizes) ch + (List.drop ch.length (p.sizes.map cheapR)).sum = leastOf (rowsOf p.sizes) (p.sizes.map cheapR) ch := rfl
  clear hx5 isch5 isv5 isv4 isy4 dm5
  iterate 4 walk_at "g"
  rw [hleast]
  have hlt : weigh Bd p.sizes.length s < m := by rw [hm]; exact weigh_pop _ _ _ _
  have hl0 : ∀ q, Full (rowsOf p.sizes) (ch ++ q) → leastOf (rowsOf p.sizes) (p.sizes.map cheapR) ch ≤ costOf (rowsOf p.sizes) (ch ++ q) := fun q hf => least_le cheap_ok hf
  have hl1 : Full (rowsOf p.sizes) ch → leastOf (rowsOf p.sizes) (p.sizes.map cheapR) ch = costOf (rowsOf p.sizes) ch := fun hf => least_full (by rw [List.length_map, rowsOf_len]) hf
  generalize leastOf (rowsOf p.sizes) (p.sizes.map cheapR) ch = lst at hl0 hl1
  have key : ∀ QB : Bool → Hp → Prop, (∀ z, (z = true ↔ ∀ c b, o = some (c, b) → lst < c) → QB z H6) →
      tOr (tB (tIsN (tFld K (tVar 0) "best"))) (tTest (tOp (rI0 fun i j => .bl (decide (i < j))) (tVar 3) (tOp (rIxT K) (tFld K (tVar 0) "best") (tC (.int 0))))) [some (.ref x), some (.ref L), some v, some (.int lst), o4] H6 QB := fun QB hQ => by
    walk_at "gg"
    cases o with
    | none =>
      obtain rfl := isb6.none_inv
      rw [decide_eq_true rfl]
      walk_at "gg"
      exact hQ true ⟨fun _ _ _ e => (nomatch e), fun _ => rfl⟩
    | some cb =>
      obtain ⟨pa, pxs, rfl, _, _⟩ := id isb6.tup_inv
      rw [decide_eq_false (by intro z; cases z)]
      walk_at "gg"
      exact hQ _ ⟨fun h c b e => by cases e; exact of_decide_eq_true h, fun h => decide_eq_true (h _ _ rfl)⟩
  refine key _ (fun z hz => ?_)
  clear key
  have drp : (∀ q, Full (rowsOf p.sizes) (ch ++ q) → Fz p (hiOf (rowsOf p.sizes) (ch ++ q)) → ∃ c b, o = some (c, b) ∧ c ≤ costOf (rowsOf p.sizes) (ch ++ q)) → SInv (rowsOf p.sizes) (Fz p) s o := fun h => I3.drop fun ch' hf hF _ hb => by
    obtain ⟨q, rfl⟩ := hb
    exact h q hf hF
  cases z with
  | false =>
    walk_at "gg"
    refine ⟨weigh Bd p.sizes.length s, hlt, s, o, ys, _, _, _, rfl, by omega, rfl, hL6, isy6, B6, drp fun q hf hF => ?_, s06⟩
    have := hl0 q hf
    have hz : ¬ ∀ c b, o = some (c, b) → lst < c := fun w => absurd (hz.mpr w) (by decide)
    cases o with
    | none => exact absurd (fun _ _ e => (nomatch e)) hz
    | some cb =>
      refine ⟨cb.1, cb.2, rfl, ?_⟩
      have : ¬ lst < cb.1 := fun w => hz fun c b e => by cases e; exact w
      omega
  | true =>
  have hz := hz.mp rfl
  walk_at "gg"
  refine g_methK hx6 rfl ?_
  walk_at "gg"
  refine ⟨L :: N, x, dx, dl, cv, sv, zv, chv, qv, v, p, o, ch, rfl, B6, P, isv6, hch, fun bb t H7 s7 lt hbb => ?_⟩
  have B7 := B6.same s7
  have hx7 := s7 _ _ hx6
  have hL7 := s7 _ _ hL6
  have isv7 := isv6.mono (same_hol s7)
  have isz7 := isz6.mono (same_hol s7)
  have isy7 := isy6.mono (same_hol s7)
  have dm7 := dm6.mono s7
  have s07 : Same (hol [x] H) (hol [L, x] H7) := s06.trans (same_hol (M := [L, x]) s7)
  clear hx6 isz6 isv6 isy6 dm6 hL6 is6 s06
  cases bb with
  | false =>
    walk_at "gg"
    refine ⟨weigh Bd p.sizes.length s, hlt, s, o, ys, _, _, _, rfl, by omega, rfl, hL7, isy7, B7, drp fun q hf hF => ?_, s07⟩
    exact absurd (hbb.mpr (P.mono hch lt hf hF)) (by decide)
  | true =>
  have wi := hbb.mp rfl
  walk_at "gg"
  refine g_eq rfl ?_
  walk_at "gg"
  rw [List.length_map, List.length_map]
  by_cases full : ch.length = p.sizes.length
  · rw [decide_eq_true (by rw [full])]
    have hfull : Full (rowsOf p.sizes) ch := ⟨hch, by rw [rowsOf_len]; exact full⟩
    walk_at "gg"
    rename_i v8 H8 s8 is8
    refine g_fldM (s8 _ _ hx7) cl na5 (by simp) (fun H9 u9 hx9 => ?_)
    have hx9 : H9 x = some (.ins C dx (fsS cv sv dl zv v8 chv qv)) := hx9
    have B9 := (B7.same s8).best (o' := some (lst, ch)) u9 hx9 is8
    refine ⟨weigh Bd p.sizes.length s, hlt, s, some (lst, ch), ys, _, _, _, rfl, by omega, rfl, u9.at nLx (s8 _ _ hL7), isy7.mono ((same_hol s8).trans (u9.hol (by simp [xN]))), B9, ?_, (s07.trans (same_hol (M := [L, x]) s8)).trans (u9.hol (by simp))⟩
    have := I3.found hfull ⟨t, by rw [← hiP_full full]; exact lt, wi⟩ (fun c b e => by rw [← hl1 hfull]; exact hz c b e)
    rw [← hl1 hfull] at this
    exact this
  · rw [decide_eq_false (by intro w; exact full (by have := V.int.inj w; omega))]
    have hi : ch.length < p.sizes.length := by omega
    obtain ⟨r, hr⟩ : ∃ r, p.sizes[ch.length]? = some r := ⟨_, List.getElem?_eq_getElem hi⟩
    have rm := List.mem_of_getElem? hr
    have rfew := P.Z.few r rm
    have rB := hBd r rm
    have hrow : (rowsOf p.sizes)[ch.length]? = some (rowOf r) := by
      unfold rowsOf
      rw [List.getElem?_map, hr]
      rfl
    have rlen : (rowOf r).length = r.length := by unfold rowOf; rw [List.length_map]
    walk_at "gg"
    rw [List.length_map]
    walk_at "gg"
    refine w_down (n := r.length) (by rw [List.length_map]) (by omega) ?_
    refine for_map (src_down (B := fun _ => none)) (fun i σ H' => ∃ (ks : List Nat) (zs : List V) (o4 : Option V), σ = [some (.ref x), some (.ref L), some v, some (.int lst), o4] ∧ H' L = some (.lst zs) ∧ IsA (hol (L :: N) H') ((s ++ ks.map fun k => ch ++ [k]).map encCh) zs ∧
      SB C (L :: N) x dx dl cv sv zv chv qv p o H' ∧ Same (hol [x] H) (hol [L, x] H') ∧ Same (hol (L :: N) H7) (hol (L :: N) H') ∧ ks.Pairwise (fun a b => b < a) ∧ (∀ k ∈ ks, k < r.length ∧ r.length ≤ k + i) ∧
      (∀ k, k < r.length → r.length ≤ k + i → k ∈ ks ∨ Useless (rowOf r) k) ∧ ks.length ≤ i) ⟨[], ys, _, rfl, hL7, by simpa using isy7, B7, s07, Same.refl _, by simp, by simp, fun k h1 h2 => by omega, Nat.le_refl _⟩ (fun j σ H' p => ?_) (fun i a z σ H8 H9 ha q s89 isz => ?_) (fun σ H8 q => ?_)
    · exact fun _ _ e => (nomatch e)
    · obtain ⟨ks, zs, o4, rfl, hL8, isz8, B8, s8, t8, hpw, hks, hall, hkl⟩ := q
      have isz := isz (L :: N) B8.dm (fun _ _ e => (nomatch e))
      obtain rfl := isz.int_inv
      rw [List.getElem?_map] at ha
      obtain ⟨i', hi', rfl⟩ := Option.map_eq_some_iff.mp ha
      obtain ⟨h1, h2⟩ := List.getElem?_eq_some_iff.mp hi'
      rw [List.length_range] at h1
      rw [List.getElem_range] at h2
      subst h2
      have B9 := B8.same s89
      have hL9 := s89 _ _ hL8
      have isz9 := isz8.mono (same_hol s89)
      have s9 : Same (hol [x] H) (hol [L, x] H9) := s8.trans (same_hol (M := [L, x]) s89)
      have t9 := t8.trans (same_hol s89)
      have isv9 := isv7.mono t9
      obtain ⟨bv9, hx9, _⟩ := B9.hx
      clear hx7 isv7 isz7 dm7 hL7
      have dm9 := B9.dm
      have zl := isz9.len
      rw [List.length_map, List.length_append, List.length_map] at zl
      walk_at "gg"
      unfold b1_Search_try_all
      walk_at "gg"
      refine g_methK hx9 rfl ?_
      walk_at "gg"
      rw [List.length_map]
      refine ⟨L :: N, x, dx, dl, cv, sv, zv, chv, qv, p, o, ch.length, r.length - 1 - i, r, rfl, B9, P, hr, by omega, fun bb H10 s10 hbb => ?_⟩
      have B10 := B9.same s10
      have hL10 := s10 _ _ hL9
      have isz10 := isz9.mono (same_hol s10)
      have s0 : Same (hol [x] H) (hol [L, x] H10) := s9.trans (same_hol (M := [L, x]) s10)
      have t10 := t9.trans (same_hol s10)
      have isv10 := isv9.mono (same_hol s10)
      have dm10 := dm9.mono s10
      clear hx9 isv9 isz9 dm9 hL9
      cases bb with
      | true =>
        walk_at "gg"
        refine ⟨ks, zs, _, rfl, hL10, isz10, B10, s0, t10, hpw, fun k hk => ⟨(hks k hk).1, by have := (hks k hk).2; omega⟩, fun k h1 h2 => ?_, by omega⟩
        by_cases e : k = r.length - 1 - i
        · rw [e]
          exact .inr (hbb.mp rfl)
        · exact hall k h1 (by omega)
      | false =>
        walk_at "gg"
        refine g_ty hL10 ?_
        walk_at "gg"
        refine g_lstK cu dm10 (ds := [.int ((r.length - 1 - i : Nat) : Int)]) (.cons (.int _) .nil) (Nat.le_of_ble_eq_true rfl) (fun v11 H11 s11 is11 => ?_)
        have isv11 := isv10.mono (same_hol s11)
        refine g_cat cu (dm10.mono s11) isv11 is11 (by rw [List.length_map, List.length_singleton]; omega) (fun v12 H12 s12 is12 => ?_)
        walk_at "gg"
        have sB := s11.trans s12
        refine g_app (sB _ _ hL10) (by omega) (fun H13 u13 hL13 => ?_)
        have tB : Same (hol (L :: N) H10) (hol (L :: N) H13) := (same_hol sB).trans (u13.hol (by simp))
        refine ⟨ks ++ [r.length - 1 - i], _, _, rfl, hL13, ?_, (B10.same sB).upd u13 (by simp) nLx nLd hL13, (s0.trans (same_hol (M := [L, x]) sB)).trans (u13.hol (by simp)), t10.trans tB, ?_, fun k hk => ?_, fun k h1 h2 => ?_, by rw [List.length_append, List.length_singleton]; omega⟩
        · rw [List.map_append (l₁ := ks), ← List.append_assoc, List.map_append (l₂ := [r.length - 1 - i].map _)]
          refine (isz10.mono tB).app (IsA.one ?_)
          have e : encCh (ch ++ [r.length - 1 - i]) = .list ((ch.map fun k => PyData.int ((k : Nat) : Int)) ++ [.int ((r.length - 1 - i : Nat) : Int)]) := by
            unfold encCh
            rw [List.map_append]
            rfl
          show Is _ (encCh (ch ++ [r.length - 1 - i])) v12
          rw [e]
          exact is12.mono (u13.hol (by simp))
        · rw [List.pairwise_append]
          refine ⟨hpw, by simp, fun a ha b hb => ?_⟩
          simp at hb
          subst hb
          have := (hks a ha).2
          omega
        · rcases List.mem_append.mp hk with q | q
          · exact ⟨(hks k q).1, by have := (hks k q).2; omega⟩
          · simp at q
            subst q
            omega
        · by_cases e : k = r.length - 1 - i
          · rw [e]
            exact .inl (by simp)
          · rcases hall k h1 (by omega) with q | q
            · exact .inl (List.mem_append_left _ q)
            · exact .inr q
    · obtain ⟨ks, zs, o4, rfl, hL8, isz8, B8, s8, t8, hpw, hks, hall, hkl⟩ := q
      rw [List.length_map, List.length_range] at hks hall hkl
      have hw : weigh Bd p.sizes.length (s ++ ks.map fun k => ch ++ [k]) < m := by
        rw [hm]
        exact weigh_open hi (by omega)
      refine ⟨_, hw, s ++ ks.map fun k => ch ++ [k], o, zs, _, _, _, rfl, by omega, rfl, hL8, isz8, B8, ?_, s8⟩
      exact I3.open hrow hpw (fun k hk => by rw [rlen]; exact (hks k hk).1) (fun k hk => hall k (by rw [rlen] at hk; exact hk) (by omega))
theorem ok_try_all {P : Program} {w : World} {K : PySem.W.Frag} {mg : Str → Option Value} {base : Heap} {C : Addr} {f : Addr} {fd : FuncData} (F : Fun K "try_all" "Search.try_all" s_Search_try_all f fd) (T : Bl mg) (A : SFld K C) (c1 : Met P w K mg base 5 C "can_meet" (spCanMeet C)) (c2 : Met P w K mg base 1 C "is_useless" (spUseless C)) (c3 : Cal P w K mg base 1 "total_cost" spTotalCost) : FnOk P w K mg base CX0 6 f fd ["self"] (spTryAll C) :=
  F.ok sc_Search_try_all (fun vs H Q E h => by
    obtain ⟨_, _, _, _, _, _, _, _, _, _, rfl, _⟩ := h
    rfl) fun cdv A' outer s H vs Q E hr h => ⟨_, dv_Search_try_all T c1 c2 c3 hr, r_try_all A h⟩

end Sg
namespace Sg
open PySem PySem.Spec PyProof.Rows L2
local macro_rules | `(tactic| walk_at "ey") => `(tactic| first
  | exact Same.refl _
  | exact hol_le
  | assumption
  | (refine Same.on ?r (same_hol (H := ?b) ?h); (case h => assumption); walk_at "ey")
  | (refine Same.on ?r (Upd.hol (l := ?l) (H := ?b) ?h ?m); (case h => assumption); (case m => simp); walk_at "ey")
  | (refine Same.on ?r (weak1 (p := ?p) (A := ?b) ?n ?h); (case h => assumption); (case n => simp); walk_at "ey")
  | (refine Same.on (B := ?b) ?r ?h; (case h => assumption); walk_at "ey")
  | (refine Same.on ?r (same1 (A := ?b) ?h); (case h => assumption); walk_at "ey")
  | (refine Same.on ?r (same2 (A := ?b) ?h); (case h => assumption); walk_at "ey"))
local macro_rules | `(tactic| walk_at "ex") => `(tactic| first
  | exact Same.refl _
  | exact hol_le
  | assumption
  | (refine Same.on ?r (same_hol (H := ?b) ?h); (case h => assumption); walk_at "ex")
  | (refine Same.on ?r (Upd.hol (l := ?l) (H := ?b) ?h ?m); (case h => assumption); (case m => simp); walk_at "ex")
  | (refine Same.on ?r (weak1 (p := ?p) (A := ?b) ?n ?h); (case h => assumption); (case n => simp); walk_at "ex")
  | (refine Same.on (B := ?b) ?r ?h; (case h => assumption); walk_at "ex")
  | (refine Same.on ?r (same1 (A := ?b) ?h); (case h => assumption); walk_at "ex")
  | (refine Same.on ?r (same2 (A := ?b) ?h); (case h => assumption); walk_at "ex")
  | (refine Same.on ?r (hol_le (M := ?m)); walk_at "ey"))
local macro_rules | `(tactic| walk_at "dom") => `(tactic| first
  | assumption
  | exact Dom.nil
  | (refine Dom.mono (H := ?b) ?h ?d; (case h => assumption); walk_at "dom")
  | (refine dom_draw (p := ?p) (l := ?l) (ns := ?ns) (A := ?b) ?h ?c ?d; (case h => assumption); (case c => assumption); walk_at "dom")
  | (refine Dom.cons (o := ?o) ?h ?d; (case h => assumption); walk_at "dom")
  | (refine Dom.holm (A := ?b) (N := ?n) ?h ?d; (case h => assumption); walk_at "dom")
  | (refine Upd.dom (l := ?l) (H := ?b) (o := ?o) ?h ?e ?d; (case h => assumption); (case e => assumption); walk_at "dom"))
local macro_rules | `(tactic| walk_at "pl") => `(tactic| first
  | assumption
  | (refine Pl.same (A := ?b) ?s ?h; (case s => assumption); walk_at "pl"))
local macro_rules | `(tactic| walk_at "is") => `(tactic| first
  | assumption
  | exact Is.int _
  | exact Is.str _
  | exact Is.bl _
  | exact Is.non
  | (refine Is.mono (H := ?b) ?s ?h; (case h => assumption); walk_at "ex"))
local macro_rules | `(tactic| walk_at "isa") => `(tactic| first
  | exact IsA.nil
  | (refine IsA.cons (d := ?x) (ds := ?xs) ?a ?b; (case a => walk_at "is"); (case b => walk_at "isa"))
  | (refine IsA.mono (H := ?b) ?s ?h; (case h => assumption); walk_at "ex"))
local macro_rules | `(tactic| walk_at "at") => `(tactic| first
  | exact at0
  | exact at1
  | exact at2
  | exact at3
  | exact at4
  | (refine atM (a := ?a) ?h; (case h => assumption))
  | (refine atJ (a := ?a) ?h; (case h => assumption)))
local macro_rules | `(tactic| walk_at "sc") => `(tactic| (intro v hv; first
  | ((with_reducible have e := Is.int_inv hv); subst e; clear hv)
  | ((with_reducible have e := Is.str_inv hv); subst e; clear hv)
  | ((with_reducible have e := Is.bool_inv hv); subst e; clear hv)
  | ((with_reducible have e := Is.none_inv hv); subst e; clear hv)
  | skip))
local macro_rules | `(tactic| walk_at "g") => `(tactic| first
  | with_reducible refine g_seq ?_
  | with_reducible refine g_asg ?_
  | with_reducible refine g_ret ?_
  | with_reducible refine g_drop ?_
  | with_reducible refine g_ifS ?_
  | with_reducible refine g_next ?_
  | with_reducible refine g_break ?_
  | with_reducible refine g_for ?_
  | with_reducible refine g_op ?_
  | ((with_reducible refine g_var (v := ?v) ?h ?k); (case h => exact rfl))
  | with_reducible refine g_c ?_
  | with_reducible refine g_I0 ?_
  | with_reducible refine g_U ?_
  | with_reducible refine g_cons ?_
  | with_reducible refine g_nil ?_
  | with_reducible refine g_cb ?_
  | with_reducible refine g_call ?_
  | with_reducible refine g_test ?_
  | with_reducible refine g_bl ?_
  | with_reducible refine g_int ?_
  | with_reducible refine g_B ?_
  | ((with_reducible refine g_wipe ?e ?k); (case e => exact rfl))
  | with_reducible refine g_iteT ?_
  | with_reducible refine g_iteF ?_
  | with_reducible refine g_iteNT ?_
  | with_reducible refine g_iteNF ?_
  | with_reducible refine g_andK ?_
  | with_reducible refine g_orK ?_
  | with_reducible refine g_notK ?_
  | ((with_reducible refine w_tupK (B := ?b) (ds := ?ds) ?s ?h ?k); (case h => assumption); (case s => walk_at "ex"); intro a S)
  | ((with_reducible refine w_listK (B := ?b) (ds := ?ds) ?s ?h ?k); (case h => assumption); (case s => walk_at "ex"); intro a S)
  | ((with_reducible refine w_enumK (B := ?b) (ds := ?ds) ?s ?h ?k); (case h => assumption); (case s => walk_at "ex"); intro a S)
  | ((with_reducible refine w_enumTK (B := ?b) (ds := ?ds) ?s ?h ?k); (case h => assumption); (case s => walk_at "ex"); intro a S)
  | ((with_reducible refine w_zipK (B := ?b) (ds := ?ds) (es := ?es) ?s ?h ?h' ?k); (case h => assumption); (case h' => walk_at "is"); (case s => walk_at "ex"); intro a b S)
  | ((with_reducible refine w_zipMK (B := ?b) (ds := ?ds) (es := ?es) ?s ?h ?h' ?k); (case h => assumption); (case h' => walk_at "is"); (case s => walk_at "ex"); intro a b S)
  | ((with_reducible refine w_zipTK (B := ?b) (ds := ?ds) (es := ?es) ?s ?h ?h' ?k); (case h => assumption); (case h' => walk_at "is"); (case s => walk_at "ex"); intro a b S)
  | ((with_reducible refine g_listOf (M := ?m) (ds := ?ds) ?c ?d ?h ?k); (case c => assumption); (case d => walk_at "dom"); (case h => first | (refine Or.inl ?_; walk_at "is") | (refine Or.inr ?_; walk_at "is")); intro v H' hs hv)
  | ((with_reducible refine g_tupOf (M := ?m) (ds := ?ds) ?c ?d ?h ?k); (case c => assumption); (case d => walk_at "dom"); (case h => walk_at "is"); intro v H' hs hv)
  | ((with_reducible refine g_tupK (M := ?m) (ds := ?ds) ?c ?d ?h ?l ?k); (case c => assumption); (case d => walk_at "dom"); (case h => walk_at "isa"); (case l => (simp only [List.length_cons, List.length_nil]; omega)); intro v H' hs hv)
  | ((with_reducible refine g_tupT (M := ?m) (ds := ?ds) ?c ?h ?e ?k); (case c => assumption); (case h => walk_at "is"); (case e => rfl); intro xs hxs)
  | ((with_reducible refine g_fldK (C := ?c) (dx := ?dx) (fs := ?fs) (v := ?v) ?h ?cl ?na ?l ?k); (case h => assumption); (case cl => assumption); (case na => assumption); (case l => first | assumption | exact rfl))
  | ((with_reducible refine g_fldM (C := ?c) (dx := ?dx) (fs := ?fs) ?h ?cl ?na ?hl ?k); (case h => assumption); (case cl => assumption); (case na => assumption); (case hl => exact Nat.le_of_ble_eq_true rfl); intro H' u hx)
  | ((with_reducible refine g_ixM (xs := ?xs) (v := ?v) ?h ?e ?k); (case h => assumption); (case e => first | exact at0 | exact at1 | exact at2 | exact at3 | exact at4))
  | ((with_reducible refine g_lenM (xs := ?xs) ?h ?k); (case h => assumption))
  | ((with_reducible refine g_mul ?h ?k); (case h => decide))
  | ((with_reducible refine g_mod ?h ?k); (case h => first | decide | assumption | omega))
  | ((with_reducible refine g_div ?h ?l ?k); (case h => first | decide | assumption | omega); (case l => first | decide | assumption | omega))
  | ((with_reducible refine g_subM (xs := ?xs) (k := ?n) ?h ?j ?k); (case h => assumption); (case j => exact rfl); intro H' u hp)
  | ((with_reducible refine g_draw (l := ?l) (ns := ?ns) ?a ?b ?h ?k); (case a => first | decide | omega); (case b => first | decide | omega); (case h => walk_at "pl"); intro r H' h0 h1 hs pl)
  | ((with_reducible refine g_dgetS (v := ?v) (kvs := ?kvs) ?h ?e ?k); (case h => assumption); (case e => assumption))
  | with_reducible refine g_and ?_
  | with_reducible refine w_keys ?_
  | with_reducible refine w_rng3 ?_
  | with_reducible refine w_items ?_
  | with_reducible refine g_or ?_
  | with_reducible refine g_not ?_
  | with_reducible refine g_yes ?_
  | with_reducible refine g_tru ?_
  | with_reducible refine g_fld ?_
  | with_reducible refine g_meth ?_
  | with_reducible refine g_make ?_
  | with_reducible refine g_tupE ?_
  | with_reducible refine g_lstE ?_
  | with_reducible refine g_sl ?_
  | with_reducible refine g_part ?_
  | with_reducible refine g_nopart ?_
  | with_reducible refine g_bm ?_
  | with_reducible refine g_bm0 ?_
  | with_reducible refine g_if ?_
  | with_reducible refine g_un ?_
  | with_reducible refine g_isN ?_
  | with_reducible refine g_notN ?_
  | with_reducible refine g_andV ?_
  | with_reducible refine g_orV ?_
  | with_reducible refine g_notV ?_
  | with_reducible refine g_lc ?_
  | with_reducible refine g_dget ?_
  | with_reducible refine g_din ?_
  | with_reducible refine g_dnotin ?_
  | with_reducible refine g_fldS ?_
  | with_reducible refine g_dput ?_
  | with_reducible refine g_sub ?_
  | with_reducible refine g_consT ?_
  | with_reducible refine g_nilT ?_
  | ((with_reducible refine g_name (σ' := ?s) ?h ?k); (case h => (dsimp only [List.set]; exact rfl)))
  | with_reducible refine w_list ?_
  | with_reducible refine w_tup ?_
  | with_reducible refine w_rng1 ?_
  | with_reducible refine w_enumT ?_
  | with_reducible refine w_enum ?_
  | with_reducible refine w_zip ?_
  | with_reducible refine w_zipM ?_
  | with_reducible refine w_zipA ?_
  | with_reducible refine w_rng ?_
  | with_reducible refine g_int1 ?_
  | ((with_reducible refine g_ixT (M := ?m) (ds := ?ds) (d := ?d) ?c ?h ?e ?k); (case c => assumption); (case h => walk_at "is"); (case e => walk_at "at"); walk_at "sc")
  | ((with_reducible refine g_ixL (M := ?m) (ds := ?ds) (d := ?d) ?c ?h ?e ?k); (case c => assumption); (case h => walk_at "is"); (case e => walk_at "at"); walk_at "sc")
  | ((with_reducible refine g_lenL (M := ?m) (ds := ?ds) ?c ?h ?k); (case c => assumption); (case h => walk_at "is"))
  | ((with_reducible refine g_lenT (M := ?m) (ds := ?ds) ?c ?h ?k); (case c => assumption); (case h => walk_at "is")))
local macro_rules | `(tactic| walk_at "len") => `(tactic| ((try simp only [List.length_map, List.length_append, List.length_cons, List.length_nil, List.length_range, List.length_zip]); omega))
local macro_rules | `(tactic| walk_at "gg") => `(tactic| repeat walk_at "g")
def spCheapest : Sp := fun vs H Q _ => ∃ (M : List Addr) (dl : Addr) (p : Prob) (cv sv zv : V) (kvs : List (Key × V)), vs = [cv, sv, .ref dl, zv] ∧ Dom M H ∧ dl ∈ M ∧ Is (hol M H) (encC p.c) cv ∧ Is (hol M H) (.list (p.st.map encP)) sv ∧ Is (hol M H) (encSS p.sizes) zv ∧ H dl = some (.dK kvs) ∧
  IsD (fun i : Int => PyData.int i) (hol M H) p.lim kvs ∧ POk p ∧ ∀ o v H', Same H H' → Is (hol M H') (encB o) v → Best (rowsOf p.sizes) (Fz p) o → Q v H'
theorem r_cheapest {K : PySem.W.Frag} {CA CS : Addr} (A : SFld K CS) {vs : List V} {H : Hp} {Q : VK} {E : XK} {n b c : L2.St → Hp → Prop} (h : spCheapest vs H Q E) : rd_cheapest K CA CS (spArrInit CA) (spSearchInit CS) (spTryAll CS) spCheckNet spCheckSizes spCheckValues ⟨n, Q, b, c⟩ (start N_cheapest vs) H := by
  obtain ⟨M, dl, p, cv, sv, zv, kvs, rfl, dm, dM, isc, iss, isz, hd, isd, P, k⟩ := h
  obtain ⟨cl, na1, na2, na3, na4, na5, na6, na7⟩ := A
  have cu := Sg.cur M
  show rd_cheapest K _ _ _ _ _ _ _ _ _ [some cv, some sv, some (.ref dl), some zv, none, none] H
  unfold rd_cheapest
  walk_at "gg"
  refine g_SpF (α := Circ × List (List Size)) cu (p.c, p.sizes) dm (.cons isc (.cons isz .nil)) ⟨P.S, P.Z⟩ (fun d v1 H1 _ s1 _ => ?_)
  have isc1 := isc.mono (same_hol s1)
  have isz1 := isz.mono (same_hol s1)
  have dm1 := dm.mono s1
  walk_at "gg"
  refine g_SpF cu p.sizes dm1 (.cons isz1 .nil) ⟨P.Z.cost, P.Z.del⟩ (fun d v2 H2 _ s2 _ => ?_)
  have s02 := s1.trans s2
  have isc2 := isc1.mono (same_hol s2)
  have dm2 := dm1.mono s2
  have hd2 := s02 _ _ hd
  have isd2 := isd.mono (same_hol (M := M) s02)
  walk_at "gg"
  refine g_lock hd2 (fun od H3 u3 hd3 => ?_)
  have t3 : Same (hol M H2) (hol M H3) := u3.hol dM
  have isc3 := isc2.mono t3
  have dm3 := u3.dom hd3 dm2
  clear isc2 isc1 isz1
  iterate 3 walk_at "g"
  refine w_keysK hd3 ?_
  refine for_map (src_keysD isd2 hd3) (fun i σ H' => ∃ (o4 : Option V), σ = [some cv, some sv, some (.ref dl), some zv, o4, none] ∧ Same H3 H') ⟨none, rfl, Same.refl _⟩ (fun j σ H' p => ?_) (fun j a z σ H8 H9 ha q s89 isz => ?_) (fun σ H4 q => ?_)
  · obtain ⟨_, _, s6⟩ := p
    exact s6
  · obtain ⟨o4, rfl, s8⟩ := q
    have isz := isz [] .nil s8
    obtain rfl := isz.str_inv
    have sA := s8.trans s89
    have isc9 := isc3.mono (same_hol sA)
    walk_at "gg"
    unfold b1_cheapest
    walk_at "gg"
    refine g_SpF (α := Circ × Str) cu (p.c, a.1) (dm3.mono sA) (.cons isc9 (.cons (.str _) .nil)) ⟨⟨P.S.few, P.S.few2⟩, P.hlim a.1 a.2 (List.mem_of_getElem? ha)⟩ (fun d v3 H10 _ s10 _ => ?_)
    exact ⟨_, rfl, sA.trans s10⟩
  obtain ⟨o4, rfl, s34⟩ := q
  refine ⟨s34 _ _ hd3, ?_⟩
  have sF : Same H (upd H4 dl (.dK kvs)) := s02.trans (same_lock ((Upd.hol u3 (M := [dl]) (by simp)).trans (same_hol s34)) hd2)
  generalize upd H4 dl (.dK kvs) = H5 at sF
  have isc5 := isc.mono (same_hol sF)
  have iss5 := iss.mono (same_hol sF)
  have dm5 := dm.mono sF
  walk_at "gg"
  refine g_makeK cu dm5 (fun y dy H6 hy s6 s6' dm6 yM hy6 => ?_)
  refine ⟨M, y, dy, p.c, p.st, cv, sv, rfl, dm6, yM, hy6, isc5.mono s6, iss5.mono s6, P.S, P.hl, P.hst, fun H7 t s7 ar lt => ⟨rfl, ?_⟩⟩
  have s57 : Same H5 H7 := (s6'.trans s7).trans hol_le
  have sG := sF.trans s57
  have isc7 := isc.mono (same_hol sG)
  have iss7 := iss.mono (same_hol sG)
  have isz7 := isz.mono (same_hol sG)
  have isd7 := isd.mono (same_hol (M := M) sG)
  have dm7 := dm.mono sG
  have hd7 := sG _ _ hd
  walk_at "gg"
  refine g_makeK cu dm7 (fun x dx H8 hx s8 s8' dm8 xM hx8 => ?_)
  have xd : dl ≠ x := fun q => by rw [q, hx] at hd7; cases hd7
  have hd8 : H8 dl = some (.dK kvs) := hol_le _ _ (s8' _ _ hd7)
  refine ⟨M, x, dx, dl, p, cv, sv, zv, kvs, rfl, dm8, dM, hx8, isc7.mono s8, iss7.mono s8, isz7.mono s8, hd8, isd7.mono s8, P, fun H9 chv qv s9 B9 => ⟨rfl, ?_⟩⟩
  walk_at "gg"
  obtain ⟨bv9, hx9, _⟩ := B9.hx
  refine g_methK hx9 rfl ?_
  walk_at "gg"
  refine ⟨x :: M, x, dx, dl, cv, sv, zv, chv, qv, p, rfl, B9, P, fun o H10 s10 B10 best => ?_⟩
  obtain ⟨bv, hx10, isb⟩ := B10.hx
  walk_at "gg"
  exact k o bv _ (sG.trans (((s8'.trans s9).trans s10).trans hol_le)) (isb.mono hol_sub) best
theorem ok_cheapest {P : Program} {w : World} {K : PySem.W.Frag} {mg : Str → Option Value} {base : Heap} {CA CS : Addr} {f : Addr} {fd : FuncData} (F : Fun K "cheapest" "cheapest" s_cheapest f fd) (T : Bl mg) (A : SFld K CS) (c1 : Mak P w K mg base 3 "Arrivals" CA (spArrInit CA)) (c2 : Mak P w K mg base 2 "Search" CS (spSearchInit CS)) (c3 : Met P w K mg base 6 CS "try_all" (spTryAll CS))
    (c4 : Cal P w K mg base 3 "check_net" spCheckNet) (c5 : Cal P w K mg base 1 "check_sizes" spCheckSizes) (c6 : Cal P w K mg base 2 "check_values" spCheckValues) : FnOk P w K mg base CX0 7 f fd ["circuit", "starts", "limits", "sizes"] spCheapest :=
  F.ok sc_cheapest (fun vs H Q E h => by
    obtain ⟨_, _, _, _, _, _, _, rfl, _⟩ := h
    rfl) fun cdv A' outer s H vs Q E hr h => ⟨_, dv_cheapest T c1 c2 c3 c4 c5 c6 hr, r_cheapest A h⟩

end Sg
namespace Sg
open PySem PySem.Spec PyProof.Rows L2
section
variable {P : Program} {w : World} {K : PySem.W.Frag} {mg : Str → Option Value} {base : Heap}
abbrev s_w_pool : Stmt := top 30
abbrev N_w_pool : List Str := ["_law_script", "_law_salt", "_law_cell"]
theorem sc_w_pool : FnScope N_w_pool ["_law_script"] (defScope s_w_pool) := ⟨rfl, rfl, rfl, by decide +kernel, rfl, by decide +kernel, by decide +kernel⟩
def b1_w_pool (K : PySem.W.Frag) : TS :=
    (tAsg (tOp (rI (fun _ j => 0 < j) fun i j => .int (i % j)) (tCB rIntQ (tCons (tOp (rI0 fun i j => .int (i + j)) (tOp (rI CMul fun i j => .int (i * j)) (tVar 1) (tC (.int 31))) (tVar 2)) tNil)) (tC (.int 1000003))) (gName 1))
def rd_w_pool (K : PySem.W.Frag) : TS :=
    (tSeq (tAsg (tC (.int 7)) (gName 1))
    (tSeq (tFor (iList K (tSl (rSlL K) (tVar 0) tNoPart (tPart (tC (.int 63))))) (gName 2) (b1_w_pool K))
    (tRet (tLst (tCons (tCB (rListQ K) (tCons (tVar 0) tNil)) (tCons (tC (.int 0)) (tCons (tC (.int 0)) (tCons (tC (.int 0)) (tCons (tVar 1) tNil)))))))))
theorem dv_w_pool  (T : Bl mg)  {f : Addr} {cdv : Value} {A : Around} {outer : List Env} {s : Shared} {H : Hp} {E : XK} (hr : Room 0 (A.deeper (envOfC "_law_pool" (defScope s_w_pool) s.heap.objs.size f cdv))) :
    PSs (cxOf CX0 P w K mg base N_w_pool "_law_pool" (defScope s_w_pool) f cdv A outer s H E).nox (defBody s_w_pool) (rd_w_pool K) :=
  (pss_cons (ps_set (i := 1) sc_w_pool.nd rfl (by first | exact Or.inl rfl | exact Or.inr rfl) pe_int)
    (pss_cons (ps_for PassesOwn.never rfl (pi_list (pe_slice sl_list (pv 0) po_none (po_some pe_int))) (pg_name (i := 2) sc_w_pool.nd rfl (by first | exact Or.inl rfl | exact Or.inr rfl)) (pss_one (ps_set (i := 1) sc_w_pool.nd rfl (by first | exact Or.inl rfl | exact Or.inr rfl) (pe_op op_mod (pe_callTy cr_int (by rfl) T.int (by decide +kernel) (pa_cons (pe_op op_add (pe_op op_mul (pv 1) pe_int) (pv 2)) pa_nil)) pe_int))))
    (pss_one (ps_ret (pe_lst (pa_cons (pe_callTy cr_list (by rfl) T.list (by decide +kernel) (pa_cons (pv 0) pa_nil)) (pa_cons pe_int (pa_cons pe_int (pa_cons pe_int (pa_cons (pv 1) pa_nil))))))))))
abbrev s_w_spread : Stmt := top 31
abbrev N_w_spread : List Str := ["_law_cell", "_law_mixed", "_law_total", "_law_k"]
theorem sc_w_spread : FnScope N_w_spread ["_law_cell"] (defScope s_w_spread) := ⟨rfl, rfl, rfl, by decide +kernel, rfl, by decide +kernel, by decide +kernel⟩
def b1_w_spread (K : PySem.W.Frag) : TS :=
    (tSeq (tAsg (tOp (rI (fun _ j => 0 < j) fun i j => .int (i % j)) (tCB rIntQ (tCons (tOp (rI0 fun i j => .int (i + j)) (tOp (rI0 fun i j => .int (i + j)) (tOp (rI CMul fun i j => .int (i * j)) (tVar 1) (tC (.int 48271))) (tC (.int 12345))) (tVar 3)) tNil)) (tC (.int 2147483647))) (gName 1))
    (tAsg (tOp (rI0 fun i j => .int (i + j)) (tOp (rI CMul fun i j => .int (i * j)) (tVar 2) (tC (.int 2147483647))) (tVar 1)) (gName 2)))
def rd_w_spread (K : PySem.W.Frag) : TS :=
    (tSeq (tAsg (tOp (rI (fun _ j => 0 < j) fun i j => .int (i % j)) (tCB rIntQ (tCons (tVar 0) tNil)) (tC (.int 2147483647))) (gName 1))
    (tSeq (tAsg (tC (.int 1)) (gName 2))
    (tSeq (tFor (iRng1 (tCons (tC (.int 4)) tNil)) (gName 3) (b1_w_spread K))
    (tRet (tVar 2)))))
theorem dv_w_spread  (T : Bl mg)  {f : Addr} {cdv : Value} {A : Around} {outer : List Env} {s : Shared} {H : Hp} {E : XK} (hr : Room 0 (A.deeper (envOfC "_law_spread" (defScope s_w_spread) s.heap.objs.size f cdv))) :
    PSs (cxOf CX0 P w K mg base N_w_spread "_law_spread" (defScope s_w_spread) f cdv A outer s H E).nox (defBody s_w_spread) (rd_w_spread K) :=
  (pss_cons (ps_set (i := 1) sc_w_spread.nd rfl (by first | exact Or.inl rfl | exact Or.inr rfl) (pe_op op_mod (pe_callTy cr_int (by rfl) T.int (by decide +kernel) (pa_cons (pv 0) pa_nil)) pe_int))
    (pss_cons (ps_set (i := 2) sc_w_spread.nd rfl (by first | exact Or.inl rfl | exact Or.inr rfl) pe_int)
    (pss_cons (ps_for PassesOwn.never rfl (pi_range1 (by rfl) T.range (pa_cons pe_int pa_nil)) (pg_name (i := 3) sc_w_spread.nd rfl (by first | exact Or.inl rfl | exact Or.inr rfl)) (pss_cons (ps_set (i := 1) sc_w_spread.nd rfl (by first | exact Or.inl rfl | exact Or.inr rfl) (pe_op op_mod (pe_callTy cr_int (by rfl) T.int (by decide +kernel) (pa_cons (pe_op op_add (pe_op op_add (pe_op op_mul (pv 1) pe_int) pe_int) (pv 3)) pa_nil)) pe_int))
    (pss_one (ps_set (i := 2) sc_w_spread.nd rfl (by first | exact Or.inl rfl | exact Or.inr rfl) (pe_op op_add (pe_op op_mul (pv 2) pe_int) (pv 1))))))
    (pss_one (ps_ret (pv 2))))))
abbrev s_w_draw : Stmt := top 32
abbrev N_w_draw : List Str := ["_law_pool_here", "_law_many", "_law_value", "_law_cell", "_law_mixed"]
theorem sc_w_draw : FnScope N_w_draw ["_law_pool_here", "_law_many"] (defScope s_w_draw) := ⟨rfl, rfl, rfl, by decide +kernel, rfl, by decide +kernel, by decide +kernel⟩
def rd_w_draw (K : PySem.W.Frag) (sp_w_spread : Sp) : TS :=
    (tSeq (tIfS (tAnd (tTest (tOp (rI0 fun i j => .bl (decide (i ≤ j))) (tOp (rIxL K) (tVar 0) (tC (.int 2))) (tC (.int 0)))) (tTest (tOp (rI0 fun i j => .bl (decide (i < j))) (tOp (rIxL K) (tVar 0) (tC (.int 1))) (tCB (rLenQ K) (tCons (tOp (rIxL K) (tVar 0) (tC (.int 0))) tNil))))) (tSeq (tAsg (tOp (rIxL K) (tOp (rIxL K) (tVar 0) (tC (.int 0))) (tOp (rIxL K) (tVar 0) (tC (.int 1)))) (gName 3))
    (tSeq (tAsg (tOp (rI0 fun i j => .int (i + j)) (tOp (rIxL K) (tVar 0) (tC (.int 1))) (tC (.int 1))) (gSub (tVar 0) (tC (.int 1)) rSetL))
    (tSeq (tAsg (tVar 3) (gSub (tVar 0) (tC (.int 2)) rSetL))
    (tIfS (tTest (tOp (rI0 fun i j => .bl (decide (i < j))) (tVar 3) (tC (.int 1000000000000000000)))) (tAsg (tCall sp_w_spread [] E0 (tCons (tVar 3) tNil)) (gSub (tVar 0) (tC (.int 2)) rSetL)) tNext)))) tNext)
    (tSeq (tAsg (tOp (rI0 fun i j => .int (i + j)) (tOp (rIxL K) (tVar 0) (tC (.int 3))) (tC (.int 1))) (gSub (tVar 0) (tC (.int 3)) rSetL))
    (tSeq (tIfS (tTest (tOp (rI0 fun i j => .bl (decide (i ≤ j))) (tOp (rIxL K) (tVar 0) (tC (.int 2))) (tC (.int 0)))) (tSeq (tAsg (tOp (rI (fun _ j => 0 < j) fun i j => .int (i % j)) (tCB rIntQ (tCons (tOp (rI0 fun i j => .int (i + j)) (tOp (rI0 fun i j => .int (i + j)) (tOp (rI CMul fun i j => .int (i * j)) (tOp (rIxL K) (tVar 0) (tC (.int 4))) (tC (.int 48271))) (tOp (rI CMul fun i j => .int (i * j)) (tOp (rIxL K) (tVar 0) (tC (.int 3))) (tC (.int 69621)))) (tC (.int 1))) tNil)) (tC (.int 2147483647))) (gName 4))
    (tSeq (tAsg (tOp (rI (fun _ j => 0 < j) fun i j => .int (i % j)) (tCB rIntQ (tCons (tOp (rI0 fun i j => .int (i + j)) (tOp (rI CMul fun i j => .int (i * j)) (tVar 4) (tC (.int 16807))) (tOp (rIxL K) (tVar 0) (tC (.int 3)))) tNil)) (tC (.int 2147483629))) (gName 4))
    (tRet (tOp (rI (fun _ j => 0 < j) fun i j => .int (i % j)) (tOp (rI CDivW fun i j => .int (i / j)) (tVar 4) (tC (.int 5))) (tVar 1))))) tNext)
    (tSeq (tAsg (tOp (rI (fun _ j => 0 < j) fun i j => .int (i % j)) (tCB rIntQ (tCons (tOp (rIxL K) (tVar 0) (tC (.int 2))) tNil)) (tVar 1)) (gName 2))
    (tSeq (tAsg (tOp (rI CDivW fun i j => .int (i / j)) (tOp (rIxL K) (tVar 0) (tC (.int 2))) (tVar 1)) (gSub (tVar 0) (tC (.int 2)) rSetL))
    (tRet (tVar 2)))))))
theorem dv_w_draw {sp_w_spread : Sp} (T : Bl mg) (c_w_spread : Cal P w K mg base 1 "_law_spread" sp_w_spread) {f : Addr} {cdv : Value} {A : Around} {outer : List Env} {s : Shared} {H : Hp} {E : XK} (hr : Room 1 (A.deeper (envOfC "_law_draw" (defScope s_w_draw) s.heap.objs.size f cdv))) :
    PSs (cxOf CX0 P w K mg base N_w_draw "_law_draw" (defScope s_w_draw) f cdv A outer s H E).nox (defBody s_w_draw) (rd_w_draw K sp_w_spread) :=
  (pss_cons (ps_if (PW.pt (pw_and (pt_cmpR op_le (pe_ix ix_list (pv 0) pe_int (fun _ _ => rfl)) pe_int (nomark _)) (pw_and1 (pt_cmpR op_lt (pe_ix ix_list (pv 0) pe_int (fun _ _ => rfl)) (pe_callB cr_len (by rfl) T.len (by decide +kernel) (pa_cons (pe_ix ix_list (pv 0) pe_int (fun _ _ => rfl)) pa_nil)) (nomark _))))) (pss_cons (ps_set (i := 3) sc_w_draw.nd rfl (by first | exact Or.inl rfl | exact Or.inr rfl) (pe_ix ix_list (pe_ix ix_list (pv 0) pe_int (fun _ _ => rfl)) (pe_ix ix_list (pv 0) pe_int (fun _ _ => rfl)) (fun _ _ => rfl)))
    (pss_cons (ps_asg (pe_op op_add (pe_ix ix_list (pv 0) pe_int (fun _ _ => rfl)) pe_int) (pg_sub (pv 0) pe_int set_list))
    (pss_cons (ps_asg (pv 3) (pg_sub (pv 0) pe_int set_list))
    (pss_one (ps_if (pt_cmpR op_lt (pv 3) pe_int (nomark _)) (pss_one (ps_asg (pe_cl c_w_spread hr (by decide) (by rfl) (pa_cons (pv 3) pa_nil)) (pg_sub (pv 0) pe_int set_list))) pss_nil))))) pss_nil)
    (pss_cons (ps_asg (pe_op op_add (pe_ix ix_list (pv 0) pe_int (fun _ _ => rfl)) pe_int) (pg_sub (pv 0) pe_int set_list))
    (pss_cons (ps_if (pt_cmpR op_le (pe_ix ix_list (pv 0) pe_int (fun _ _ => rfl)) pe_int (nomark _)) (pss_cons (ps_set (i := 4) sc_w_draw.nd rfl (by first | exact Or.inl rfl | exact Or.inr rfl) (pe_op op_mod (pe_callTy cr_int (by rfl) T.int (by decide +kernel) (pa_cons (pe_op op_add (pe_op op_add (pe_op op_mul (pe_ix ix_list (pv 0) pe_int (fun _ _ => rfl)) pe_int) (pe_op op_mul (pe_ix ix_list (pv 0) pe_int (fun _ _ => rfl)) pe_int)) pe_int) pa_nil)) pe_int))
    (pss_cons (ps_set (i := 4) sc_w_draw.nd rfl (by first | exact Or.inl rfl | exact Or.inr rfl) (pe_op op_mod (pe_callTy cr_int (by rfl) T.int (by decide +kernel) (pa_cons (pe_op op_add (pe_op op_mul (pv 4) pe_int) (pe_ix ix_list (pv 0) pe_int (fun _ _ => rfl))) pa_nil)) pe_int))
    (pss_one (ps_ret (pe_op op_mod (pe_op op_fdivW (pv 4) pe_int) (pv 1)))))) pss_nil)
    (pss_cons (ps_set (i := 2) sc_w_draw.nd rfl (by first | exact Or.inl rfl | exact Or.inr rfl) (pe_op op_mod (pe_callTy cr_int (by rfl) T.int (by decide +kernel) (pa_cons (pe_ix ix_list (pv 0) pe_int (fun _ _ => rfl)) pa_nil)) (pv 1)))
    (pss_cons (ps_asg (pe_op op_fdivW (pe_ix ix_list (pv 0) pe_int (fun _ _ => rfl)) (pv 1)) (pg_sub (pv 0) pe_int set_list))
    (pss_one (ps_ret (pv 2))))))))
abbrev s_w_same : Stmt := top 33
abbrev N_w_same : List Str := ["_law_actual", "_law_due", "_law_k"]
theorem sc_w_same : FnScope N_w_same ["_law_actual", "_law_due"] (defScope s_w_same) := ⟨rfl, rfl, rfl, by decide +kernel, rfl, by decide +kernel, by decide +kernel⟩
def b1_w_same (K : PySem.W.Frag) (sp_w_same : Sp) : TS :=
    (tIfS (tNot (tB (tCall sp_w_same [] E0 (tCons (tOp (rIx K) (tVar 0) (tVar 2)) (tCons (tOp (rIx K) (tVar 1) (tVar 2)) tNil))))) (tRet (tC (.bl false))) tNext)
def rd_w_same (K : PySem.W.Frag) (sp_w_same : Sp) : TS :=
    (tSeq (tIfS (tOr (tB (tCB (rIsi K) (tCons (tVar 1) (tCons (tC (.ty "tuple")) tNil)))) (tB (tCB (rIsi K) (tCons (tVar 1) (tCons (tC (.ty "list")) tNil))))) (tSeq (tIfS (tOr (tTest (tOp rNe (tCB (rIsi K) (tCons (tVar 1) (tCons (tC (.ty "tuple")) tNil))) (tCB (rIsi K) (tCons (tVar 0) (tCons (tC (.ty "tuple")) tNil))))) (tTest (tOp rNe (tCB (rIsi K) (tCons (tVar 1) (tCons (tC (.ty "list")) tNil))) (tCB (rIsi K) (tCons (tVar 0) (tCons (tC (.ty "list")) tNil)))))) (tRet (tC (.bl false))) tNext)
    (tSeq (tIfS (tTest (tOp rNe (tCB (rLenQ K) (tCons (tVar 0) tNil)) (tCB (rLenQ K) (tCons (tVar 1) tNil)))) (tRet (tC (.bl false))) tNext)
    (tSeq (tFor (iRng1 (tCons (tCB (rLenQ K) (tCons (tVar 1) tNil)) tNil)) (gName 2) (b1_w_same K sp_w_same))
    (tRet (tC (.bl true)))))) tNext)
    (tSeq (tIfS (tB (tIsN (tVar 1))) (tRet (tIsN (tVar 0))) tNext)
    (tSeq (tIfS (tB (tCB (rIsi K) (tCons (tVar 1) (tCons (tC (.ty "bool")) tNil)))) (tRet (tAndV (tCB (rIsi K) (tCons (tVar 0) (tCons (tC (.ty "bool")) tNil))) (tOp rEq (tVar 0) (tVar 1)))) tNext)
    (tSeq (tIfS (tB (tCB (rIsi K) (tCons (tVar 1) (tCons (tC (.ty "int")) tNil)))) (tRet (tAndV (tCB (rIsi K) (tCons (tVar 0) (tCons (tC (.ty "int")) tNil))) (tAndV (tNotV (tCB (rIsi K) (tCons (tVar 0) (tCons (tC (.ty "bool")) tNil)))) (tOp rEq (tVar 0) (tVar 1))))) tNext)
    (tRet (tAndV (tCB (rIsi K) (tCons (tVar 0) (tCons (tC (.ty "str")) tNil))) (tOp rEq (tVar 0) (tVar 1))))))))
theorem dv_w_same {sp_w_same : Sp} {lv : Nat} (T : Bl mg) (c_w_same : Cal P w K mg base lv "_law_same" sp_w_same) {f : Addr} {cdv : Value} {A : Around} {outer : List Env} {s : Shared} {H : Hp} {E : XK} (hr : Room lv (A.deeper (envOfC "_law_same" (defScope s_w_same) s.heap.objs.size f cdv))) :
    PSs (cxOf CX0 P w K mg base N_w_same "_law_same" (defScope s_w_same) f cdv A outer s H E).nox (defBody s_w_same) (rd_w_same K sp_w_same) :=
  (pss_cons (ps_if (PW.pt (pw_or (pt_val (pe_callB call_isi (by rfl) T.isinstance (by decide +kernel) (pa_cons (pv 1) (pa_cons (pe_bltn (v := .ty "tuple") (by rfl) T.tuple (by decide +kernel) rfl) pa_nil)))) (pw_or1 (pt_val (pe_callB call_isi (by rfl) T.isinstance (by decide +kernel) (pa_cons (pv 1) (pa_cons (pe_bltn (v := .ty "list") (by rfl) T.list (by decide +kernel) rfl) pa_nil))))))) (pss_cons (ps_if (PW.pt (pw_or (pt_cmpR op_ne (pe_callB call_isi (by rfl) T.isinstance (by decide +kernel) (pa_cons (pv 1) (pa_cons (pe_bltn (v := .ty "tuple") (by rfl) T.tuple (by decide +kernel) rfl) pa_nil))) (pe_callB call_isi (by rfl) T.isinstance (by decide +kernel) (pa_cons (pv 0) (pa_cons (pe_bltn (v := .ty "tuple") (by rfl) T.tuple (by decide +kernel) rfl) pa_nil))) (nomark _)) (pw_or1 (pt_cmpR op_ne (pe_callB call_isi (by rfl) T.isinstance (by decide +kernel) (pa_cons (pv 1) (pa_cons (pe_bltn (v := .ty "list") (by rfl) T.list (by decide +kernel) rfl) pa_nil))) (pe_callB call_isi (by rfl) T.isinstance (by decide +kernel) (pa_cons (pv 0) (pa_cons (pe_bltn (v := .ty "list") (by rfl) T.list (by decide +kernel) rfl) pa_nil))) (nomark _))))) (pss_one (ps_ret pe_bl)) pss_nil)
    (pss_cons (ps_if (pt_cmpR op_ne (pe_callB cr_len (by rfl) T.len (by decide +kernel) (pa_cons (pv 0) pa_nil)) (pe_callB cr_len (by rfl) T.len (by decide +kernel) (pa_cons (pv 1) pa_nil)) (nomark _)) (pss_one (ps_ret pe_bl)) pss_nil)
    (pss_cons (ps_for PassesOwn.never rfl (pi_range1 (by rfl) T.range (pa_cons (pe_callB cr_len (by rfl) T.len (by decide +kernel) (pa_cons (pv 1) pa_nil)) pa_nil)) (pg_name (i := 2) sc_w_same.nd rfl (by first | exact Or.inl rfl | exact Or.inr rfl)) (pss_one (ps_if (pt_not (pt_val (pe_cl c_w_same hr (Nat.le_refl _) (by rfl) (pa_cons (pe_ix ix_seq (pv 0) (pv 2) (fun _ _ => rfl)) (pa_cons (pe_ix ix_seq (pv 1) (pv 2) (fun _ _ => rfl)) pa_nil))))) (pss_one (ps_ret pe_bl)) pss_nil)))
    (pss_one (ps_ret pe_bl))))) pss_nil)
    (pss_cons (ps_if (pt_cmp (pc_isN (pv 1))) (pss_one (ps_ret (pe_cmp (pc_isN (pv 0)) rfl))) pss_nil)
    (pss_cons (ps_if (pt_val (pe_callB call_isi (by rfl) T.isinstance (by decide +kernel) (pa_cons (pv 1) (pa_cons (pe_bltn (v := .ty "bool") (by rfl) T.bool (by decide +kernel) rfl) pa_nil)))) (pss_one (ps_ret (pe_and (pe_callB call_isi (by rfl) T.isinstance (by decide +kernel) (pa_cons (pv 0) (pa_cons (pe_bltn (v := .ty "bool") (by rfl) T.bool (by decide +kernel) rfl) pa_nil))) (pe_one (pe_cmpR op_eq (pv 0) (pv 1) (nomark _)))))) pss_nil)
    (pss_cons (ps_if (pt_val (pe_callB call_isi (by rfl) T.isinstance (by decide +kernel) (pa_cons (pv 1) (pa_cons (pe_bltn (v := .ty "int") (by rfl) T.int (by decide +kernel) rfl) pa_nil)))) (pss_one (ps_ret (pe_and (pe_callB call_isi (by rfl) T.isinstance (by decide +kernel) (pa_cons (pv 0) (pa_cons (pe_bltn (v := .ty "int") (by rfl) T.int (by decide +kernel) rfl) pa_nil))) (pe_and (pe_not (pe_callB call_isi (by rfl) T.isinstance (by decide +kernel) (pa_cons (pv 0) (pa_cons (pe_bltn (v := .ty "bool") (by rfl) T.bool (by decide +kernel) rfl) pa_nil)))) (pe_one (pe_cmpR op_eq (pv 0) (pv 1) (nomark _))))))) pss_nil)
    (pss_one (ps_ret (pe_and (pe_callB call_isi (by rfl) T.isinstance (by decide +kernel) (pa_cons (pv 0) (pa_cons (pe_bltn (v := .ty "str") (by rfl) T.str (by decide +kernel) rfl) pa_nil))) (pe_one (pe_cmpR op_eq (pv 0) (pv 1) (nomark _))))))))))
abbrev s_w_bits : Stmt := top 34
abbrev N_w_bits : List Str := ["_law_index", "_law_many", "_law_out", "_law_k"]
theorem sc_w_bits : FnScope N_w_bits ["_law_index", "_law_many"] (defScope s_w_bits) := ⟨rfl, rfl, rfl, by decide +kernel, rfl, by decide +kernel, by decide +kernel⟩
def b1_w_bits (K : PySem.W.Frag) : TS :=
    (tSeq (tDrop (tBM K "list" rAppend (tVar 2) (tCons (tOp rEq (tOp (rI (fun _ j => 0 < j) fun i j => .int (i % j)) (tCB rIntQ (tCons (tVar 0) tNil)) (tC (.int 2))) (tC (.int 1))) tNil)))
    (tAsg (tOp (rI CDivW fun i j => .int (i / j)) (tVar 0) (tC (.int 2))) (gName 0)))
def rd_w_bits (K : PySem.W.Frag) : TS :=
    (tSeq (tAsg (tLst tNil) (gName 2))
    (tSeq (tFor (iRng1 (tCons (tVar 1) tNil)) (gName 3) (b1_w_bits K))
    (tRet (tCB (rTupQ K) (tCons (tVar 2) tNil)))))
theorem dv_w_bits  (T : Bl mg)  {f : Addr} {cdv : Value} {A : Around} {outer : List Env} {s : Shared} {H : Hp} {E : XK} (hr : Room 0 (A.deeper (envOfC "_law_bits" (defScope s_w_bits) s.heap.objs.size f cdv))) :
    PSs (cxOf CX0 P w K mg base N_w_bits "_law_bits" (defScope s_w_bits) f cdv A outer s H E).nox (defBody s_w_bits) (rd_w_bits K) :=
  (pss_cons (ps_set (i := 2) sc_w_bits.nd rfl (by first | exact Or.inl rfl | exact Or.inr rfl) (pe_lst pa_nil))
    (pss_cons (ps_for PassesOwn.never rfl (pi_range1 (by rfl) T.range (pa_cons (pv 1) pa_nil)) (pg_name (i := 3) sc_w_bits.nd rfl (by first | exact Or.inl rfl | exact Or.inr rfl)) (pss_cons (ps_expr (pe_bm PySem.F.plainAttrs_list PySem.F.slot_list_append PySem.F.type_list_append mt_append (pv 2) (pa_cons (pe_cmpR op_eq (pe_op op_mod (pe_callTy cr_int (by rfl) T.int (by decide +kernel) (pa_cons (pv 0) pa_nil)) pe_int) pe_int (nomark _)) pa_nil)))
    (pss_one (ps_set (i := 0) sc_w_bits.nd rfl (by first | exact Or.inl rfl | exact Or.inr rfl) (pe_op op_fdivW (pv 0) pe_int)))))
    (pss_one (ps_ret (pe_callTy cr_tuple (by rfl) T.tuple (by decide +kernel) (pa_cons (pv 2) pa_nil))))))
abbrev s_w_table : Stmt := top 35
abbrev N_w_table : List Str := ["_law_pool_here", "_law_many", "_law_size", "_law_kind", "_law_number", "_law_value", "_law_low", "_law_place", "_law_bit", "_law_k"]
theorem sc_w_table : FnScope N_w_table ["_law_pool_here", "_law_many"] (defScope s_w_table) := ⟨rfl, rfl, rfl, by decide +kernel, rfl, by decide +kernel, by decide +kernel⟩
def rd_w_table (K : PySem.W.Frag) (sp_w_bits : Sp) (sp_w_draw : Sp) : TS :=
    (tSeq (tAsg (tOp (rIxL K) (tLst (tCons (tC (.int 1)) (tCons (tC (.int 2)) (tCons (tC (.int 4)) (tCons (tC (.int 8)) (tCons (tC (.int 16)) (tCons (tC (.int 32)) (tCons (tC (.int 64)) tNil)))))))) (tVar 1)) (gName 2))
    (tSeq (tAsg (tCall sp_w_draw [] E0 (tCons (tVar 0) (tCons (tC (.int 6)) tNil))) (gName 3))
    (tSeq (tIfS (tTest (tOp rEq (tVar 3) (tC (.int 0)))) (tSeq (tAsg (tOp rEq (tCall sp_w_draw [] E0 (tCons (tVar 0) (tCons (tC (.int 2)) tNil))) (tC (.int 1))) (gName 5))
    (tRet (tCB (rTupQ K) (tCons (tLc (iRng1 (tCons (tVar 2) tNil)) (gName 9) tYes (tVar 5) [9]) tNil)))) tNext)
    (tSeq (tIfS (tAnd (tTest (tOp rEq (tVar 3) (tC (.int 1)))) (tTest (tOp (rI0 fun i j => .bl (decide (j < i))) (tVar 1) (tC (.int 0))))) (tSeq (tAsg (tOp (rIxL K) (tLst (tCons (tC (.int 1)) (tCons (tC (.int 2)) (tCons (tC (.int 4)) (tCons (tC (.int 8)) (tCons (tC (.int 16)) (tCons (tC (.int 32)) tNil))))))) (tCall sp_w_draw [] E0 (tCons (tVar 0) (tCons (tVar 1) tNil)))) (gName 6))
    (tRet (tCB (rTupQ K) (tCons (tLc (iRng1 (tCons (tVar 2) tNil)) (gName 9) tYes (tOp rEq (tOp (rI (fun _ j => 0 < j) fun i j => .int (i % j)) (tCB rIntQ (tCons (tOp (rI CDivW fun i j => .int (i / j)) (tVar 9) (tVar 6)) tNil)) (tC (.int 2))) (tC (.int 1))) [9]) tNil)))) tNext)
    (tSeq (tIfS (tTest (tOp rEq (tVar 3) (tC (.int 2)))) (tSeq (tAsg (tCall sp_w_draw [] E0 (tCons (tVar 0) (tCons (tVar 2) tNil))) (gName 7))
    (tRet (tCB (rTupQ K) (tCons (tLc (iRng1 (tCons (tVar 2) tNil)) (gName 9) tYes (tOp rEq (tVar 9) (tVar 7)) [9]) tNil)))) tNext)
    (tSeq (tAsg (tCall sp_w_draw [] E0 (tCons (tVar 0) (tCons (tOp (rI CPow fun i j => .int (i ^ j.toNat)) (tC (.int 2)) (tC (.int 64))) tNil))) (gName 4))
    (tRet (tCB (rTupQ K) (tCons (tLc (iTup K (tCall sp_w_bits [] E0 (tCons (tVar 4) (tCons (tVar 2) tNil)))) (gName 8) tYes (tVar 8) [8]) tNil)))))))))
theorem dv_w_table {sp_w_bits : Sp} {sp_w_draw : Sp} (T : Bl mg) (c_w_bits : Cal P w K mg base 1 "_law_bits" sp_w_bits) (c_w_draw : Cal P w K mg base 2 "_law_draw" sp_w_draw) {f : Addr} {cdv : Value} {A : Around} {outer : List Env} {s : Shared} {H : Hp} {E : XK} (hr : Room 2 (A.deeper (envOfC "_law_table" (defScope s_w_table) s.heap.objs.size f cdv))) :
    PSs (cxOf CX0 P w K mg base N_w_table "_law_table" (defScope s_w_table) f cdv A outer s H E).nox (defBody s_w_table) (rd_w_table K sp_w_bits sp_w_draw) :=
  (pss_cons (ps_set (i := 2) sc_w_table.nd rfl (by first | exact Or.inl rfl | exact Or.inr rfl) (pe_ix ix_list (pe_lst (pa_cons pe_int (pa_cons pe_int (pa_cons pe_int (pa_cons pe_int (pa_cons pe_int (pa_cons pe_int (pa_cons pe_int pa_nil)))))))) (pv 1) (fun _ _ => rfl)))
    (pss_cons (ps_set (i := 3) sc_w_table.nd rfl (by first | exact Or.inl rfl | exact Or.inr rfl) (pe_cl c_w_draw hr (by decide) (by rfl) (pa_cons (pv 0) (pa_cons pe_int pa_nil))))
    (pss_cons (ps_if (pt_cmpR op_eq (pv 3) pe_int (nomark _)) (pss_cons (ps_set (i := 5) sc_w_table.nd rfl (by first | exact Or.inl rfl | exact Or.inr rfl) (pe_cmpR op_eq (pe_cl c_w_draw hr (by decide) (by rfl) (pa_cons (pv 0) (pa_cons pe_int pa_nil))) pe_int (nomark _)))
    (pss_one (ps_ret (pe_callTy cr_tuple (by rfl) T.tuple (by decide +kernel) (pa_cons (pe_lc (own := [("_law_k", 9)]) rfl sc_w_table.nd (pi_range1 (by rfl) T.range (pa_cons (pv 2) pa_nil)) (blkOk_by (own := [("_law_k", 9)]) (N := N_w_table) (sc := (defScope s_w_table)) (by decide +kernel)) (fun _ _ _ _ _ => (pg_name (i := 9) sc_w_table.nd rfl (by first | exact Or.inl rfl | exact Or.inr rfl))) (fun _ _ _ _ _ => pts_nil) (fun _ _ _ _ _ => (pv 5))) pa_nil))))) pss_nil)
    (pss_cons (ps_if (PW.pt (pw_and (pt_cmpR op_eq (pv 3) pe_int (nomark _)) (pw_and1 (pt_cmpR op_gt (pv 1) pe_int (nomark _))))) (pss_cons (ps_set (i := 6) sc_w_table.nd rfl (by first | exact Or.inl rfl | exact Or.inr rfl) (pe_ix ix_list (pe_lst (pa_cons pe_int (pa_cons pe_int (pa_cons pe_int (pa_cons pe_int (pa_cons pe_int (pa_cons pe_int pa_nil))))))) (pe_cl c_w_draw hr (by decide) (by rfl) (pa_cons (pv 0) (pa_cons (pv 1) pa_nil))) (fun _ _ => rfl)))
    (pss_one (ps_ret (pe_callTy cr_tuple (by rfl) T.tuple (by decide +kernel) (pa_cons (pe_lc (own := [("_law_k", 9)]) rfl sc_w_table.nd (pi_range1 (by rfl) T.range (pa_cons (pv 2) pa_nil)) (blkOk_by (own := [("_law_k", 9)]) (N := N_w_table) (sc := (defScope s_w_table)) (by decide +kernel)) (fun _ _ _ _ _ => (pg_name (i := 9) sc_w_table.nd rfl (by first | exact Or.inl rfl | exact Or.inr rfl))) (fun _ _ _ _ _ => pts_nil) (fun _ _ _ _ _ => (pe_cmpR op_eq (pe_op op_mod (pe_callTy cr_int (by rfl) T.int (by decide +kernel) (pa_cons (pe_op op_fdivW (pv 9) (pv 6)) pa_nil)) pe_int) pe_int (nomark _)))) pa_nil))))) pss_nil)
    (pss_cons (ps_if (pt_cmpR op_eq (pv 3) pe_int (nomark _)) (pss_cons (ps_set (i := 7) sc_w_table.nd rfl (by first | exact Or.inl rfl | exact Or.inr rfl) (pe_cl c_w_draw hr (by decide) (by rfl) (pa_cons (pv 0) (pa_cons (pv 2) pa_nil))))
    (pss_one (ps_ret (pe_callTy cr_tuple (by rfl) T.tuple (by decide +kernel) (pa_cons (pe_lc (own := [("_law_k", 9)]) rfl sc_w_table.nd (pi_range1 (by rfl) T.range (pa_cons (pv 2) pa_nil)) (blkOk_by (own := [("_law_k", 9)]) (N := N_w_table) (sc := (defScope s_w_table)) (by decide +kernel)) (fun _ _ _ _ _ => (pg_name (i := 9) sc_w_table.nd rfl (by first | exact Or.inl rfl | exact Or.inr rfl))) (fun _ _ _ _ _ => pts_nil) (fun _ _ _ _ _ => (pe_cmpR op_eq (pv 9) (pv 7) (nomark _)))) pa_nil))))) pss_nil)
    (pss_cons (ps_set (i := 4) sc_w_table.nd rfl (by first | exact Or.inl rfl | exact Or.inr rfl) (pe_cl c_w_draw hr (by decide) (by rfl) (pa_cons (pv 0) (pa_cons (pe_op op_pow pe_int pe_int) pa_nil))))
    (pss_one (ps_ret (pe_callTy cr_tuple (by rfl) T.tuple (by decide +kernel) (pa_cons (pe_lc (own := [("_law_bit", 8)]) rfl sc_w_table.nd (pi_tup (pe_cl c_w_bits hr (by decide) (by rfl) (pa_cons (pv 4) (pa_cons (pv 2) pa_nil)))) (blkOk_by (own := [("_law_bit", 8)]) (N := N_w_table) (sc := (defScope s_w_table)) (by decide +kernel)) (fun _ _ _ _ _ => (pg_name (i := 8) sc_w_table.nd rfl (by first | exact Or.inl rfl | exact Or.inr rfl))) (fun _ _ _ _ _ => pts_nil) (fun _ _ _ _ _ => (pv 8))) pa_nil))))))))))
abbrev s_w_register : Stmt := top 36
abbrev N_w_register : List Str := ["_law_pool_here", "_law_name", "_law_net", "_law_edge", "_law_out", "_law_high", "_law_wide"]
theorem sc_w_register : FnScope N_w_register ["_law_pool_here", "_law_name", "_law_net"] (defScope s_w_register) := ⟨rfl, rfl, rfl, by decide +kernel, rfl, by decide +kernel, by decide +kernel⟩
def rd_w_register (K : PySem.W.Frag) (sp_w_draw : Sp) : TS :=
    (tSeq (tAsg (tCall sp_w_draw [] E0 (tCons (tVar 0) (tCons (tC (.int 3)) tNil))) (gName 3))
    (tSeq (tAsg (tCall sp_w_draw [] E0 (tCons (tVar 0) (tCons (tC (.int 4)) tNil))) (gName 4))
    (tSeq (tAsg (tOp (rI0 fun i j => .int (i + j)) (tOp (rI0 fun i j => .int (i + j)) (tVar 4) (tC (.int 1))) (tCall sp_w_draw [] E0 (tCons (tVar 0) (tCons (tC (.int 4)) tNil)))) (gName 5))
    (tSeq (tAsg (tOp (rI0 fun i j => .int (i + j)) (tVar 3) (tCall sp_w_draw [] E0 (tCons (tVar 0) (tCons (tC (.int 3)) tNil)))) (gName 6))
    (tRet (tTup (tCons (tVar 1) (tCons (tVar 2) (tCons (tTup (tCons (tVar 3) (tCons (tVar 6) tNil))) (tCons (tTup (tCons (tVar 4) (tCons (tVar 5) tNil))) (tCons (tCall sp_w_draw [] E0 (tCons (tVar 0) (tCons (tC (.int 4)) tNil))) (tCons (tCall sp_w_draw [] E0 (tCons (tVar 0) (tCons (tVar 5) tNil))) (tCons (tOp rEq (tCall sp_w_draw [] E0 (tCons (tVar 0) (tCons (tC (.int 2)) tNil))) (tC (.int 1))) tNil)))))))))))))
theorem dv_w_register {sp_w_draw : Sp} (T : Bl mg) (c_w_draw : Cal P w K mg base 2 "_law_draw" sp_w_draw) {f : Addr} {cdv : Value} {A : Around} {outer : List Env} {s : Shared} {H : Hp} {E : XK} (hr : Room 2 (A.deeper (envOfC "_law_register" (defScope s_w_register) s.heap.objs.size f cdv))) :
    PSs (cxOf CX0 P w K mg base N_w_register "_law_register" (defScope s_w_register) f cdv A outer s H E).nox (defBody s_w_register) (rd_w_register K sp_w_draw) :=
  (pss_cons (ps_set (i := 3) sc_w_register.nd rfl (by first | exact Or.inl rfl | exact Or.inr rfl) (pe_cl c_w_draw hr (by decide) (by rfl) (pa_cons (pv 0) (pa_cons pe_int pa_nil))))
    (pss_cons (ps_set (i := 4) sc_w_register.nd rfl (by first | exact Or.inl rfl | exact Or.inr rfl) (pe_cl c_w_draw hr (by decide) (by rfl) (pa_cons (pv 0) (pa_cons pe_int pa_nil))))
    (pss_cons (ps_set (i := 5) sc_w_register.nd rfl (by first | exact Or.inl rfl | exact Or.inr rfl) (pe_op op_add (pe_op op_add (pv 4) pe_int) (pe_cl c_w_draw hr (by decide) (by rfl) (pa_cons (pv 0) (pa_cons pe_int pa_nil)))))
    (pss_cons (ps_set (i := 6) sc_w_register.nd rfl (by first | exact Or.inl rfl | exact Or.inr rfl) (pe_op op_add (pv 3) (pe_cl c_w_draw hr (by decide) (by rfl) (pa_cons (pv 0) (pa_cons pe_int pa_nil)))))
    (pss_one (ps_ret (pe_tup (pa_cons (pv 1) (pa_cons (pv 2) (pa_cons (pe_tup (pa_cons (pv 3) (pa_cons (pv 6) pa_nil))) (pa_cons (pe_tup (pa_cons (pv 4) (pa_cons (pv 5) pa_nil))) (pa_cons (pe_cl c_w_draw hr (by decide) (by rfl) (pa_cons (pv 0) (pa_cons pe_int pa_nil))) (pa_cons (pe_cl c_w_draw hr (by decide) (by rfl) (pa_cons (pv 0) (pa_cons (pv 5) pa_nil))) (pa_cons (pe_cmpR op_eq (pe_cl c_w_draw hr (by decide) (by rfl) (pa_cons (pv 0) (pa_cons pe_int pa_nil))) pe_int (nomark _)) pa_nil))))))))))))))
end
end Sg
namespace Sg
open PySem PySem.Spec PyProof.Rows L2
section
variable {K : PySem.W.Frag} {H : Hp} {Q : VK} {x y v : V} {M : List Addr} {ds es : List PyData} {i j : Int} {l p : Addr} {P : Hp → Prop}
theorem g_mul {f : Int → Int → V} (h : (decide (-(2 ^ 64) < j) && decide (j < 2 ^ 64)) = true) (k : Q (f i j) H) : rI CMul f (.int i) (.int j) H Q := by
  rw [Bool.and_eq_true] at h
  exact ⟨i, j, rfl, rfl, .inr ⟨of_decide_eq_true h.1, of_decide_eq_true h.2⟩, k⟩
theorem g_mod {f : Int → Int → V} (h : 0 < j) (k : Q (f i j) H) : rI (fun _ j => 0 < j) f (.int i) (.int j) H Q := ⟨i, j, rfl, rfl, h, k⟩
theorem log_small {j : Int} (h : 0 < j) (h2 : j ≤ 2 ^ 64) : j.natAbs.log2 < 9000 := by
  have h1 : j.natAbs < 2 ^ 65 := by omega
  have := PySem.Flt.log2_lt_of (by decide : 0 < 65) h1
  omega
theorem g_div {f : Int → Int → V} (h : 0 < j) (h2 : j ≤ 2 ^ 64) (k : Q (f i j) H) : rI CDivW f (.int i) (.int j) H Q := ⟨i, j, rfl, rfl, ⟨h, log_small h h2⟩, k⟩
theorem g_subM {xs : List V} {k : Nat} (h : H l = some (.lst xs)) (hj : ixN xs.length i = some k) (q : ∀ H', Upd l H H' → H' l = some (.lst (xs.set k v)) → P H') : rSetL (.ref l) (.int i) v H P := g_setM h hj q
theorem g_slT {n : Nat} (cu : Cur M) (dm : Dom M H) (h : Is (hol M H) (.list ds) x) (q : ∀ v H', Same H H' → Is (hol M H') (.list (ds.take n)) v → Q v H') : rSlL K x none (some (n : Int)) H Q := by
  obtain ⟨a, xs, rfl, h1, h2⟩ := h.lst_inv
  refine ⟨a, xs, rfl, .inl (.inl (hol_le _ _ h1)), fun p hp => q _ _ (Same.new hp) ?_⟩
  have e : cutV xs none (some (n : Int)) = xs.take n := by
    unfold cutV
    rw [HT.sIx_nat, HT.sIx_none, List.drop_zero, Nat.sub_zero]
    by_cases z : n ≤ xs.length
    · rw [Nat.min_eq_left z]
    · rw [Nat.min_eq_right (by omega), List.take_of_length_le (Nat.le_refl _), List.take_of_length_le (by omega)]
  rw [e]
  exact new_lst dm (h2.take n) hp
theorem g_slS {a : Addr} {ns : List Int} {n : Nat} (hS : SqL K H a (ns.map V.int)) (q : ∀ v H', Same H H' → Is (hol [] H') (.list ((ns.take n).map PyData.int)) v → Q v H') : rSlL K (.ref a) none (some (n : Int)) H Q := by
  refine ⟨a, _, rfl, hS, fun p hp => ?_⟩
  have e : cutV (ns.map V.int) none (some (n : Int)) = (ns.take n).map V.int := by
    unfold cutV
    rw [HT.sIx_nat, HT.sIx_none, List.drop_zero, Nat.sub_zero, List.map_take]
    by_cases z : n ≤ (ns.map V.int).length
    · rw [Nat.min_eq_left z]
    · rw [Nat.min_eq_right (by omega), List.take_of_length_le (Nat.le_refl _), List.take_of_length_le (by omega)]
  rw [e]
  exact q _ _ (Same.new hp) (.lst upd_same (IsA.of_ints _))
theorem g_listS {a : Addr} {xs : List V} (hS : SqL K H a xs) (k : ∀ l H', Same H H' → H' l = some (.lst xs) → Q (.ref l) H') : rListQ K [.ref a] H Q :=
  ⟨a, xs, rfl, .inl hS, fun l hl => k l _ (Same.new hl) upd_same⟩
end
end Sg
namespace Sg
open PySem PySem.Spec PyProof.Rows L2
local macro_rules | `(tactic| walk_at "ey") => `(tactic| first
  | exact Same.refl _
  | exact hol_le
  | assumption
  | (refine Same.on ?r (same_hol (H := ?b) ?h); (case h => assumption); walk_at "ey")
  | (refine Same.on ?r (Upd.hol (l := ?l) (H := ?b) ?h ?m); (case h => assumption); (case m => simp); walk_at "ey")
  | (refine Same.on ?r (weak1 (p := ?p) (A := ?b) ?n ?h); (case h => assumption); (case n => simp); walk_at "ey")
  | (refine Same.on (B := ?b) ?r ?h; (case h => assumption); walk_at "ey")
  | (refine Same.on ?r (same1 (A := ?b) ?h); (case h => assumption); walk_at "ey")
  | (refine Same.on ?r (same2 (A := ?b) ?h); (case h => assumption); walk_at "ey"))
local macro_rules | `(tactic| walk_at "ex") => `(tactic| first
  | exact Same.refl _
  | exact hol_le
  | assumption
  | (refine Same.on ?r (same_hol (H := ?b) ?h); (case h => assumption); walk_at "ex")
  | (refine Same.on ?r (Upd.hol (l := ?l) (H := ?b) ?h ?m); (case h => assumption); (case m => simp); walk_at "ex")
  | (refine Same.on ?r (weak1 (p := ?p) (A := ?b) ?n ?h); (case h => assumption); (case n => simp); walk_at "ex")
  | (refine Same.on (B := ?b) ?r ?h; (case h => assumption); walk_at "ex")
  | (refine Same.on ?r (same1 (A := ?b) ?h); (case h => assumption); walk_at "ex")
  | (refine Same.on ?r (same2 (A := ?b) ?h); (case h => assumption); walk_at "ex")
  | (refine Same.on ?r (hol_le (M := ?m)); walk_at "ey"))
local macro_rules | `(tactic| walk_at "dom") => `(tactic| first
  | assumption
  | exact Dom.nil
  | (refine Dom.mono (H := ?b) ?h ?d; (case h => assumption); walk_at "dom")
  | (refine dom_draw (p := ?p) (l := ?l) (ns := ?ns) (A := ?b) ?h ?c ?d; (case h => assumption); (case c => assumption); walk_at "dom")
  | (refine Dom.cons (o := ?o) ?h ?d; (case h => assumption); walk_at "dom")
  | (refine Dom.holm (A := ?b) (N := ?n) ?h ?d; (case h => assumption); walk_at "dom")
  | (refine Upd.dom (l := ?l) (H := ?b) (o := ?o) ?h ?e ?d; (case h => assumption); (case e => assumption); walk_at "dom"))
local macro_rules | `(tactic| walk_at "pl") => `(tactic| first
  | assumption
  | (refine Pl.same (A := ?b) ?s ?h; (case s => assumption); walk_at "pl"))
local macro_rules | `(tactic| walk_at "is") => `(tactic| first
  | assumption
  | exact Is.int _
  | exact Is.str _
  | exact Is.bl _
  | exact Is.non
  | (refine Is.mono (H := ?b) ?s ?h; (case h => assumption); walk_at "ex"))
local macro_rules | `(tactic| walk_at "isa") => `(tactic| first
  | exact IsA.nil
  | (refine IsA.cons (d := ?x) (ds := ?xs) ?a ?b; (case a => walk_at "is"); (case b => walk_at "isa"))
  | (refine IsA.mono (H := ?b) ?s ?h; (case h => assumption); walk_at "ex"))
local macro_rules | `(tactic| walk_at "at") => `(tactic| first
  | exact at0
  | exact at1
  | exact at2
  | exact at3
  | exact at4
  | (refine atM (a := ?a) ?h; (case h => assumption))
  | (refine atJ (a := ?a) ?h; (case h => assumption)))
local macro_rules | `(tactic| walk_at "sc") => `(tactic| (intro v hv; first
  | ((with_reducible have e := Is.int_inv hv); subst e; clear hv)
  | ((with_reducible have e := Is.str_inv hv); subst e; clear hv)
  | ((with_reducible have e := Is.bool_inv hv); subst e; clear hv)
  | ((with_reducible have e := Is.none_inv hv); subst e; clear hv)
  | skip))
local macro_rules | `(tactic| walk_at "g") => `(tactic| first
  | with_reducible refine g_seq ?_
  | with_reducible refine g_asg ?_
  | with_reducible refine g_ret ?_
  | with_reducible refine g_drop ?_
  | with_reducible refine g_ifS ?_
  | with_reducible refine g_next ?_
  | with_reducible refine g_break ?_
  | with_reducible refine g_for ?_
  | with_reducible refine g_op ?_
  | ((with_reducible refine g_var (v := ?v) ?h ?k); (case h => exact rfl))
  | with_reducible refine g_c ?_
  | with_reducible refine g_I0 ?_
  | with_reducible refine g_U ?_
  | with_reducible refine g_cons ?_
  | with_reducible refine g_nil ?_
  | with_reducible refine g_cb ?_
  | with_reducible refine g_call ?_
  | with_reducible refine g_test ?_
  | with_reducible refine g_bl ?_
  | with_reducible refine g_int ?_
  | with_reducible refine g_B ?_
  | ((with_reducible refine g_wipe ?e ?k); (case e => exact rfl))
  | with_reducible refine g_iteT ?_
  | with_reducible refine g_iteF ?_
  | with_reducible refine g_iteNT ?_
  | with_reducible refine g_iteNF ?_
  | with_reducible refine g_andK ?_
  | with_reducible refine g_orK ?_
  | with_reducible refine g_notK ?_
  | ((with_reducible refine w_tupK (B := ?b) (ds := ?ds) ?s ?h ?k); (case h => assumption); (case s => walk_at "ex"); intro a S)
  | ((with_reducible refine w_listK (B := ?b) (ds := ?ds) ?s ?h ?k); (case h => assumption); (case s => walk_at "ex"); intro a S)
  | ((with_reducible refine w_enumK (B := ?b) (ds := ?ds) ?s ?h ?k); (case h => assumption); (case s => walk_at "ex"); intro a S)
  | ((with_reducible refine w_enumTK (B := ?b) (ds := ?ds) ?s ?h ?k); (case h => assumption); (case s => walk_at "ex"); intro a S)
  | ((with_reducible refine w_zipK (B := ?b) (ds := ?ds) (es := ?es) ?s ?h ?h' ?k); (case h => assumption); (case h' => walk_at "is"); (case s => walk_at "ex"); intro a b S)
  | ((with_reducible refine w_zipMK (B := ?b) (ds := ?ds) (es := ?es) ?s ?h ?h' ?k); (case h => assumption); (case h' => walk_at "is"); (case s => walk_at "ex"); intro a b S)
  | ((with_reducible refine w_zipTK (B := ?b) (ds := ?ds) (es := ?es) ?s ?h ?h' ?k); (case h => assumption); (case h' => walk_at "is"); (case s => walk_at "ex"); intro a b S)
  | ((with_reducible refine g_listOf (M := ?m) (ds := ?ds) ?c ?d ?h ?k); (case c => assumption); (case d => walk_at "dom"); (case h => first | (refine Or.inl ?_; walk_at "is") | (refine Or.inr ?_; walk_at "is")); intro v H' hs hv)
  | ((with_reducible refine g_tupOf (M := ?m) (ds := ?ds) ?c ?d ?h ?k); (case c => assumption); (case d => walk_at "dom"); (case h => walk_at "is"); intro v H' hs hv)
  | ((with_reducible refine g_tupK (M := ?m) (ds := ?ds) ?c ?d ?h ?l ?k); (case c => assumption); (case d => walk_at "dom"); (case h => walk_at "isa"); (case l => (simp only [List.length_cons, List.length_nil]; omega)); intro v H' hs hv)
  | ((with_reducible refine g_tupT (M := ?m) (ds := ?ds) ?c ?h ?e ?k); (case c => assumption); (case h => walk_at "is"); (case e => rfl); intro xs hxs)
  | ((with_reducible refine g_fldK (C := ?c) (dx := ?dx) (fs := ?fs) (v := ?v) ?h ?cl ?na ?l ?k); (case h => assumption); (case cl => assumption); (case na => assumption); (case l => first | assumption | exact rfl))
  | ((with_reducible refine g_fldM (C := ?c) (dx := ?dx) (fs := ?fs) ?h ?cl ?na ?hl ?k); (case h => assumption); (case cl => assumption); (case na => assumption); (case hl => exact Nat.le_of_ble_eq_true rfl); intro H' u hx)
  | ((with_reducible refine g_ixM (xs := ?xs) (v := ?v) ?h ?e ?k); (case h => assumption); (case e => first | exact at0 | exact at1 | exact at2 | exact at3 | exact at4))
  | ((with_reducible refine g_lenM (xs := ?xs) ?h ?k); (case h => assumption))
  | ((with_reducible refine g_mul ?h ?k); (case h => decide))
  | ((with_reducible refine g_mod ?h ?k); (case h => first | decide | assumption | omega))
  | ((with_reducible refine g_div ?h ?l ?k); (case h => first | decide | assumption | omega); (case l => first | decide | assumption | omega))
  | ((with_reducible refine g_subM (xs := ?xs) (k := ?n) ?h ?j ?k); (case h => assumption); (case j => exact rfl); intro H' u hp)
  | ((with_reducible refine g_isi (t := ?t) (b := ?b) ?ty ?e ?k); (case ty => assumption); (case e => first | exact kit_NoneType_tuple | exact kit_NoneType_list | exact kit_NoneType_bool | exact kit_NoneType_int | exact kit_int_tuple | exact kit_int_list | exact kit_int_bool | exact kit_int_int | exact kit_list_tuple | exact kit_list_list | exact kit_list_bool | exact kit_list_int | exact kit_tuple_tuple | exact kit_tuple_list | exact kit_tuple_bool | exact kit_tuple_int))
  | ((with_reducible refine g_draw (l := ?l) (ns := ?ns) ?a ?b ?h ?k); (case a => first | decide | omega); (case b => first | decide | omega); (case h => walk_at "pl"); intro r H' h0 h1 hs pl)
  | ((with_reducible refine g_dgetS (v := ?v) (kvs := ?kvs) ?h ?e ?k); (case h => assumption); (case e => assumption))
  | with_reducible refine g_and ?_
  | with_reducible refine w_keys ?_
  | with_reducible refine w_rng3 ?_
  | with_reducible refine w_items ?_
  | with_reducible refine g_or ?_
  | with_reducible refine g_not ?_
  | with_reducible refine g_yes ?_
  | with_reducible refine g_tru ?_
  | with_reducible refine g_fld ?_
  | with_reducible refine g_meth ?_
  | with_reducible refine g_make ?_
  | with_reducible refine g_tupE ?_
  | with_reducible refine g_lstE ?_
  | with_reducible refine g_sl ?_
  | with_reducible refine g_part ?_
  | with_reducible refine g_nopart ?_
  | with_reducible refine g_bm ?_
  | with_reducible refine g_bm0 ?_
  | with_reducible refine g_if ?_
  | with_reducible refine g_un ?_
  | with_reducible refine g_isN ?_
  | with_reducible refine g_notN ?_
  | with_reducible refine g_andV ?_
  | with_reducible refine g_orV ?_
  | with_reducible refine g_notV ?_
  | with_reducible refine g_lc ?_
  | with_reducible refine g_dget ?_
  | with_reducible refine g_din ?_
  | with_reducible refine g_dnotin ?_
  | with_reducible refine g_fldS ?_
  | with_reducible refine g_dput ?_
  | with_reducible refine g_sub ?_
  | with_reducible refine g_consT ?_
  | with_reducible refine g_nilT ?_
  | ((with_reducible refine g_name (σ' := ?s) ?h ?k); (case h => (dsimp only [List.set]; exact rfl)))
  | with_reducible refine w_list ?_
  | with_reducible refine w_tup ?_
  | with_reducible refine w_rng1 ?_
  | with_reducible refine w_enumT ?_
  | with_reducible refine w_enum ?_
  | with_reducible refine w_zip ?_
  | with_reducible refine w_zipM ?_
  | with_reducible refine w_zipA ?_
  | with_reducible refine w_rng ?_
  | with_reducible refine g_int1 ?_
  | ((with_reducible refine g_ixT (M := ?m) (ds := ?ds) (d := ?d) ?c ?h ?e ?k); (case c => assumption); (case h => walk_at "is"); (case e => walk_at "at"); walk_at "sc")
  | ((with_reducible refine g_ixL (M := ?m) (ds := ?ds) (d := ?d) ?c ?h ?e ?k); (case c => assumption); (case h => walk_at "is"); (case e => walk_at "at"); walk_at "sc")
  | ((with_reducible refine g_lenL (M := ?m) (ds := ?ds) ?c ?h ?k); (case c => assumption); (case h => walk_at "is"))
  | ((with_reducible refine g_lenT (M := ?m) (ds := ?ds) ?c ?h ?k); (case c => assumption); (case h => walk_at "is")))
local macro_rules | `(tactic| walk_at "len") => `(tactic| ((try simp only [List.length_map, List.length_append, List.length_cons, List.length_nil, List.length_range, List.length_zip]); omega))
local macro_rules | `(tactic| walk_at "gg") => `(tactic| repeat walk_at "g")
def spSpread : Sp := SpF (fun i : Int => [.int i]) (fun _ => True) fun _ d => ∃ j : Int, d = .int j
theorem r_spread {K : PySem.W.Frag} {vs : List V} {H : Hp} {Q : VK} {E : XK} {n b c : L2.St → Hp → Prop} (h : spSpread vs H Q E) : rd_w_spread K ⟨n, Q, b, c⟩ (start N_w_spread vs) H := by
  obtain ⟨M, i, dm, _, hv, k⟩ := h
  obtain ⟨v, r, rfl, is1, hr⟩ := hv.cons_inv
  obtain rfl := hr.nil_inv
  obtain rfl := is1.int_inv
  show rd_w_spread K _ [some (.int i), none, none, none] H
  unfold rd_w_spread
  walk_at "gg"
  refine w_rng1K (n := 4) rfl (by decide) ?_
  refine for_map (l := List.range 4) (enc := fun i : Nat => PyData.int ((i : Nat) : Int)) (src_range (B := H)) (fun j σ H' => ∃ (a t : Int) (o3 : Option V), σ = [some (.int i), some (.int a), some (.int t), o3] ∧ Same H H') ⟨_, _, none, rfl, Same.refl _⟩ (fun j σ H' p => ?_) (fun j a y σ H6 H7 ha p s67 isx => ?_) (fun σ H2 p => ?_)
  · obtain ⟨_, _, _, _, s6⟩ := p
    exact s6
  · obtain ⟨a', t, o3, rfl, s6⟩ := p
    obtain rfl := (isx [] .nil s6).int_inv
    walk_at "gg"
    unfold b1_w_spread
    walk_at "gg"
    exact ⟨_, _, _, rfl, s6.trans s67⟩
  · obtain ⟨a', t, o3, rfl, s6⟩ := p
    walk_at "gg"
    exact k _ _ _ ⟨_, rfl⟩ s6 (Is.int _)
theorem ok_spread {P : Program} {w : World} {K : PySem.W.Frag} {mg : Str → Option Value} {base : Heap} {f : Addr} {fd : FuncData} (F : Fun K "_law_spread" "_law_spread" s_w_spread f fd) (T : Bl mg) : FnOk P w K mg base CX0 1 f fd ["_law_cell"] spSpread :=
  F.ok sc_w_spread (fun vs H Q E h => SpF.len (n := 1) (fun _ => rfl) h) fun cdv A outer s H vs Q E hr h => ⟨_, dv_w_spread T hr, r_spread h⟩
def spPool (K : PySem.W.Frag) : Sp := fun vs H Q _ => ∃ (ns : List Int) (a : Addr), vs = [.ref a] ∧ SqL K H a (ns.map V.int) ∧ ∀ p l H', Same H H' → Same H (hol [p] H') → hol [p] H' l = some (.lst (ns.map V.int)) → PCell H' p l → Q (.ref p) H'
theorem r_pool {K : PySem.W.Frag} {vs : List V} {H : Hp} {Q : VK} {E : XK} {n b c : L2.St → Hp → Prop} (h : spPool K vs H Q E) : rd_w_pool K ⟨n, Q, b, c⟩ (start N_w_pool vs) H := by
  obtain ⟨ns, a, rfl, hS, k⟩ := h
  have cu := Sg.cur []
  show rd_w_pool K _ [some (.ref a), none, none] H
  unfold rd_w_pool
  walk_at "gg"
  refine g_slS (n := 63) hS (fun v1 H1 s1 is2 => ?_)
  have hS1 := s1.seq hS
  walk_at "gg"
  refine for_map ‹Src _ _ ((ns.take 63).map PyData.int)› (fun j σ H' => ∃ (z : Int) (o2 : Option V), σ = [some (.ref a), some (.int z), o2] ∧ Same H1 H') ⟨_, none, rfl, Same.refl _⟩ (fun j σ H' p => ?_) (fun j z y σ H6 H7 ha p s67 isx => ?_) (fun σ H2 p => ?_)
  · obtain ⟨_, _, _, s6⟩ := p
    exact s6
  · obtain ⟨a', o2, rfl, s6⟩ := p
    obtain rfl := (isx [] .nil s6).int_inv
    walk_at "gg"
    unfold b1_w_pool
    walk_at "gg"
    exact ⟨_, _, rfl, s6.trans s67⟩
  · obtain ⟨a', o2, rfl, s6⟩ := p
    have hS2 := s6.seq hS1
    walk_at "gg"
    refine g_listS hS2 (fun l H3 s3 hl => ?_)
    walk_at "gg"
    refine g_lstM cu (Nat.le_of_ble_eq_true rfl) (fun q H4 hq s4 hq4 _ s4' => ?_)
    have s14 := ((s1.trans s6).trans s3)
    exact k q l H4 (s14.trans s4) (s14.trans s4') (s4' _ _ hl) ⟨_, _, _, _, hq4, Int.le_refl _⟩
theorem ok_pool {P : Program} {w : World} {K : PySem.W.Frag} {mg : Str → Option Value} {base : Heap} {f : Addr} {fd : FuncData} (F : Fun K "_law_pool" "_law_pool" s_w_pool f fd) (T : Bl mg) : FnOk P w K mg base CX0 1 f fd ["_law_script"] (spPool K) :=
  F.ok sc_w_pool (fun vs H Q E h => by
    obtain ⟨_, _, rfl, _⟩ := h
    rfl) fun cdv A outer s H vs Q E hr h => ⟨_, dv_w_pool T hr, r_pool h⟩
def spDraw : Sp := fun vs H Q _ => ∃ (p l : Addr) (ns : List Int) (many : Int), vs = [.ref p, .int many] ∧ 0 < many ∧ many ≤ 2 ^ 64 ∧ hol [p] H l = some (.lst (ns.map V.int)) ∧ PCell H p l ∧
  ∀ r H', 0 ≤ r → r < many → Same (hol [p] H) (hol [p] H') → PCell H' p l → Q (.int r) H'
theorem r_draw {K : PySem.W.Frag} {vs : List V} {H : Hp} {Q : VK} {E : XK} {n b c : L2.St → Hp → Prop} (h : spDraw vs H Q E) : rd_w_draw K spSpread ⟨n, Q, b, c⟩ (start N_w_draw vs) H := by
  obtain ⟨p, l, ns, many, rfl, pos, big, hl, ⟨i, z, m, salt, hp, h0⟩, k⟩ := h
  show rd_w_draw K _ _ [some (.ref p), some (.int many), none, none, none] H
  have nlp : l ≠ p := fun q => (hol_some.mp hl).1 (by simp [q])
  have hl' := hol_le _ _ hl
  unfold rd_w_draw
  have rest : ∀ (σ : L2.St) (H1 : Hp) (i z m salt : Int) (o2 o3 o4 : Option V), Same (hol [p] H) (hol [p] H1) → H1 p = some (.lst [.ref l, .int i, .int z, .int m, .int salt]) → 0 ≤ i →
      (tSeq (tAsg (tOp (rI0 fun i j => .int (i + j)) (tOp (rIxL K) (tVar 0) (tC (.int 3))) (tC (.int 1))) (gSub (tVar 0) (tC (.int 3)) rSetL))
    (tSeq (tIfS (tTest (tOp (rI0 fun i j => .bl (decide (i ≤ j))) (tOp (rIxL K) (tVar 0) (tC (.int 2))) (tC (.int 0)))) (tSeq (tAsg (tOp (rI (fun _ j => 0 < j) fun i j => .int (i % j)) (tCB rIntQ (tCons (tOp (rI0 fun i j => .int (i + j)) (tOp (rI0 fun i j => .int (i + j)) (tOp (rI CMul fun i j => .int (i * j)) (tOp (rIxL K) (tVar 0) (tC (.int 4))) (tC (.int 48271))) (tOp (rI CMul fun i j => .int (i * j)) (tOp (rIxL K) (tVar 0) (tC (.int 3))) (tC (.int 69621)))) (tC (.int 1))) tNil)) (tC (.int 2147483647))) (gName 4))
    (tSeq (tAsg (tOp (rI (fun _ j => 0 < j) fun i j => .int (i % j)) (tCB rIntQ (tCons (tOp (rI0 fun i j => .int (i + j)) (tOp (rI CMul fun i j => .int (i * j)) (tVar 4) (tC (.int 16807))) (tOp (rIxL K) (tVar 0) (tC (.int 3)))) tNil)) (tC (.int 2147483629))) (gName 4))
    (tRet (tOp (rI (fun _ j => 0 < j) fun i j => .int (i % j)) (tOp (rI CDivW fun i j => .int (i / j)) (tVar 4) (tC (.int 5))) (tVar 1))))) tNext)
    (tSeq (tAsg (tOp (rI (fun _ j => 0 < j) fun i j => .int (i % j)) (tCB rIntQ (tCons (tOp (rIxL K) (tVar 0) (tC (.int 2))) tNil)) (tVar 1)) (gName 2))
    (tSeq (tAsg (tOp (rI CDivW fun i j => .int (i / j)) (tOp (rIxL K) (tVar 0) (tC (.int 2))) (tVar 1)) (gSub (tVar 0) (tC (.int 2)) rSetL))
    (tRet (tVar 2)))))) ⟨n, Q, b, c⟩ [some (.ref p), some (.int many), o2, o3, o4] H1 := fun σ H1 i z m salt o2 o3 o4 s1 hp1 h01 => by
    walk_at "gg"
    rename_i H2 u2 hp2
    have hp2 : H2 p = some (.lst [.ref l, .int i, .int z, .int (m + 1), .int salt]) := hp2
    have s2 := s1.trans (Upd.hol u2 (M := [p]) (by simp))
    by_cases hz : z ≤ 0
    · walk_at "gg"
      rw [decide_eq_true hz]
      walk_at "gg"
      exact k _ _ (Int.emod_nonneg _ (by omega)) (Int.emod_lt_of_pos _ pos) s2 ⟨_, _, _, _, hp2, h01⟩
    · walk_at "gg"
      rw [decide_eq_false hz]
      walk_at "gg"
      rename_i H3 u3 hp3
      exact k _ _ (Int.emod_nonneg _ (by omega)) (Int.emod_lt_of_pos _ pos) (s2.trans (Upd.hol u3 (M := [p]) (by simp))) ⟨_, _, _, _, hp3, h01⟩
  walk_at "gg"
  by_cases hz : z ≤ 0
  · rw [decide_eq_true hz]
    walk_at "gg"
    by_cases hi : i < (ns.map V.int).length
    · rw [decide_eq_true hi]
      obtain ⟨cell, hcell⟩ : ∃ cell, ns[i.toNat]? = some cell := ⟨_, List.getElem?_eq_getElem (by rw [List.length_map] at hi; omega)⟩
      have hat : atI (ns.map V.int) i = some (.int cell) := by
        have := atM (f := V.int) hcell
        rw [Int.toNat_of_nonneg h0] at this
        exact this
      walk_at "gg"
      refine g_ixM hl' hat ?_
      walk_at "gg"
      rename_i H2 u2 hp2 H3 u3 hp3
      have hp3 : H3 p = some (.lst [.ref l, .int (i + 1), .int cell, .int m, .int salt]) := hp3
      have s3 := (Upd.hol u2 (M := [p]) (by simp)).trans (Upd.hol u3 (M := [p]) (by simp))
      by_cases hc : cell < 1000000000000000000
      · rw [decide_eq_true hc]
        walk_at "gg"
        refine g_SpF (Sg.cur []) cell .nil (.cons (.int _) .nil) trivial (fun d v H4 hd s4 is4 => ?_)
        obtain ⟨j, rfl⟩ := hd
        obtain rfl := is4.int_inv
        have hp4 := s4 _ _ hp3
        iterate 4 walk_at "g"
        rename_i H5 u5 hp5
        have hp5 : H5 p = some (.lst [.ref l, .int (i + 1), .int j, .int m, .int salt]) := hp5
        exact rest [] _ _ _ _ _ _ _ _ ((s3.trans (same_hol s4)).trans (Upd.hol u5 (M := [p]) (by simp))) hp5 (by omega)
      · rw [decide_eq_false hc]
        iterate 2 walk_at "g"
        exact rest [] _ _ _ _ _ _ _ _ s3 hp3 (by omega)
    · rw [decide_eq_false hi]
      iterate 2 walk_at "g"
      exact rest [] _ _ _ _ _ _ _ _ (Same.refl _) hp h0
  · rw [decide_eq_false hz]
    iterate 3 walk_at "g"
    exact rest [] _ _ _ _ _ _ _ _ (Same.refl _) hp h0
theorem ok_draw {P : Program} {w : World} {K : PySem.W.Frag} {mg : Str → Option Value} {base : Heap} {f : Addr} {fd : FuncData} (F : Fun K "_law_draw" "_law_draw" s_w_draw f fd) (T : Bl mg) (c1 : Cal P w K mg base 1 "_law_spread" spSpread) : FnOk P w K mg base CX0 2 f fd ["_law_pool_here", "_law_many"] spDraw :=
  F.ok sc_w_draw (fun vs H Q E h => by
    obtain ⟨_, _, _, _, rfl, _⟩ := h
    rfl) fun cdv A outer s H vs Q E hr h => ⟨_, dv_w_draw T c1 hr, r_draw h⟩

end Sg
namespace Sg
open PySem PySem.Spec PyProof.Rows L2
structure Pl (p l : Addr) (ns : List Int) (H : Hp) : Prop where
  hl : hol [p] H l = some (.lst (ns.map V.int))
  hc : PCell H p l
theorem weak1 {p : Addr} {M : List Addr} {A B : Hp} (hm : p ∈ M) (h : Same (hol [p] A) (hol [p] B)) : Same (hol M A) (hol M B) := hol_weak (fun a m => by simp at m; rw [m]; exact hm) h
section
variable {p l : Addr} {ns : List Int} {A B H : Hp} {M : List Addr}
theorem Pl.same (s : Same A B) (h : Pl p l ns A) : Pl p l ns B := ⟨(same_hol s) _ _ h.hl, h.hc.mono s⟩
theorem Pl.step (s : Same (hol [p] A) (hol [p] B)) (c : PCell B p l) (h : Pl p l ns A) : Pl p l ns B := ⟨s _ _ h.hl, c⟩
theorem Pl.upd {a : Addr} (u : Upd a A B) (h1 : a ≠ p) (h2 : a ≠ l) (h : Pl p l ns A) : Pl p l ns B := by
  obtain ⟨hl, i, z, n, salt, hc, h0⟩ := h
  obtain ⟨g1, g2⟩ := hol_some.mp hl
  exact ⟨hol_some.mpr ⟨g1, u.at h2.symm g2⟩, i, z, n, salt, u.at h1.symm hc, h0⟩
theorem Pl.ne (h : Pl p l ns A) {a : Addr} {f : A a = none} : a ≠ p ∧ a ≠ l := by
  obtain ⟨hl, i, z, n, salt, hc, h0⟩ := h
  refine ⟨fun q => ?_, fun q => ?_⟩
  · rw [q, hc] at f; cases f
  · rw [q, hol_le _ _ hl] at f; cases f
theorem dom_draw (h : Same (hol [p] A) (hol [p] B)) (c : Pl p l ns B) (d : Dom M A) : Dom M B := fun m hm => by
  obtain ⟨o, e⟩ := d m hm
  by_cases q : m = p
  · obtain ⟨_, _, _, _, _, hc, _⟩ := c
    rw [q]
    exact ⟨_, hc⟩
  · exact ⟨o, hol_le _ _ (h m o (hol_some.mpr ⟨by simp [q], e⟩))⟩
theorem g_draw {Q : VK} {E : XK} {many : Int} (pos : 0 < many) (big : many ≤ 2 ^ 64) (h : Pl p l ns H) (k : ∀ r H', 0 ≤ r → r < many → Same (hol [p] H) (hol [p] H') → Pl p l ns H' → Q (.int r) H') : spDraw [.ref p, .int many] H Q E :=
  ⟨p, l, ns, many, rfl, pos, big, h.hl, h.hc, fun r H' h0 h1 s c => k r H' h0 h1 s (h.step s c)⟩
end
section
variable {J : It} {B : Hp} {g : TG} {σ : L2.St} {H : Hp} {tt : TT} {te : TE} {vs : List Nat} {Q : VK} {M : List Addr} {p l : Addr} {ns : List Int}
theorem lc_draw {α : Type} {ls : List α} {enc : α → PyData} (S : Src J B (ls.map enc)) (R : α → PyData → Prop) (cu : Cur (p :: M)) (dm : Dom (p :: M) H) (pl : Pl p l ns H) (hB : Same B (hol (p :: M) H)) (hz : ls.length < 100000)
    (turn : ∀ (i : Nat) a x L H' (Y : V → Hp → Prop) (No : Hp → Prop), ls[i]? = some a → Cur (p :: L :: M) → Dom (p :: L :: M) H' → Same (hol (p :: M) H) (hol (p :: L :: M) H') → Same (hol [p] H) (hol [p, L] H') → Pl p l ns H' → Is (hol (p :: L :: M) H') (enc a) x →
      (∀ y d' H2, Same (hol [p] H') (hol [p] H2) → Pl p l ns H2 → Is (hol (p :: L :: M) H2) d' y → R a d' → Y y H2) →
      g x (wipe σ vs) H' fun σ2 H2 => wipe σ2 vs = wipe σ vs ∧ tt σ2 H2 fun b H3 => if b = true then te σ2 H3 Y else No H3)
    (k : ∀ v out H', Same (hol [p] H) (hol [p] H') → Pl p l ns H' → Paired R ls out → Is (hol (p :: M) H') (.list out) v → Q v H') : LcK J g tt te vs σ H Q := by
  refine lc_pool S R cu (fun m hm => dm m (List.mem_cons_of_mem _ hm)) pl.hc hB hz (fun i a x L H' Y No hd cu' dm' s1 s2 c ne isx kY => ?_) (fun v out H' s c r h => k v out H' s (pl.step s c) r h)
  have pl' : Pl p l ns H' := ⟨by
    obtain ⟨g1, g2⟩ := hol_some.mp (s2 _ _ pl.hl)
    exact hol_some.mpr ⟨by simp at g1 ⊢; exact g1.1, g2⟩, c⟩
  have dm2 : Dom (p :: L :: M) H' := by
    obtain ⟨_, _, _, _, hc, _⟩ := c
    exact .cons hc dm'
  exact turn i a x L H' Y No hd cu' dm2 s1 s2 pl' isx fun y d' H2 s3 pl3 is3 r => kY y d' H2 s3 pl3.hc is3 r
end
theorem paired_get {α β : Type} {R : α → β → Prop} : ∀ {l : List α} {m : List β}, Paired R l m → ∀ {i : Nat} {b : β}, m[i]? = some b → ∃ a, l[i]? = some a ∧ R a b
  | _, _, .nil, _, _, h => by simp at h
  | _, _, .cons h r, 0, b, e => by
    simp at e
    subst e
    exact ⟨_, rfl, h⟩
  | _, _, .cons h r, i + 1, b, e => by
    obtain ⟨a, h1, h2⟩ := paired_get r (i := i) (b := b) (by simpa using e)
    exact ⟨a, by simpa using h1, h2⟩
theorem paired_ex {α γ : Type} {f : γ → PyData} {R : α → PyData → Prop} {R' : α → γ → Prop} (h : ∀ a d, R a d → ∃ c, d = f c ∧ R' a c) : ∀ {l : List α} {m : List PyData}, Paired R l m → ∃ cs, m = cs.map f ∧ Paired R' l cs
  | _, _, .nil => ⟨[], rfl, .nil⟩
  | _, _, .cons h1 r => by
    obtain ⟨c, rfl, h2⟩ := h _ _ h1
    obtain ⟨cs, rfl, h3⟩ := paired_ex h r
    exact ⟨c :: cs, rfl, .cons h2 h3⟩
theorem paired_all {α γ : Type} {R : α → γ → Prop} : ∀ {l : List α} {m : List γ}, Paired R l m → ∀ c ∈ m, ∃ a ∈ l, R a c
  | _, _, .nil, _, h => by simp at h
  | _, _, .cons h1 r, c, h => by
    rcases List.mem_cons.mp h with e | e
    · subst e
      exact ⟨_, List.mem_cons_self, h1⟩
    · obtain ⟨a, h2, h3⟩ := paired_all r c e
      exact ⟨a, List.mem_cons_of_mem _ h2, h3⟩
end Sg
namespace Sg
open PySem PySem.Spec PyProof.Rows L2
local macro_rules | `(tactic| walk_at "ey") => `(tactic| first
  | exact Same.refl _
  | exact hol_le
  | assumption
  | (refine Same.on ?r (same_hol (H := ?b) ?h); (case h => assumption); walk_at "ey")
  | (refine Same.on ?r (Upd.hol (l := ?l) (H := ?b) ?h ?m); (case h => assumption); (case m => simp); walk_at "ey")
  | (refine Same.on ?r (weak1 (p := ?p) (A := ?b) ?n ?h); (case h => assumption); (case n => simp); walk_at "ey")
  | (refine Same.on (B := ?b) ?r ?h; (case h => assumption); walk_at "ey")
  | (refine Same.on ?r (same1 (A := ?b) ?h); (case h => assumption); walk_at "ey")
  | (refine Same.on ?r (same2 (A := ?b) ?h); (case h => assumption); walk_at "ey"))
local macro_rules | `(tactic| walk_at "ex") => `(tactic| first
  | exact Same.refl _
  | exact hol_le
  | assumption
  | (refine Same.on ?r (same_hol (H := ?b) ?h); (case h => assumption); walk_at "ex")
  | (refine Same.on ?r (Upd.hol (l := ?l) (H := ?b) ?h ?m); (case h => assumption); (case m => simp); walk_at "ex")
  | (refine Same.on ?r (weak1 (p := ?p) (A := ?b) ?n ?h); (case h => assumption); (case n => simp); walk_at "ex")
  | (refine Same.on (B := ?b) ?r ?h; (case h => assumption); walk_at "ex")
  | (refine Same.on ?r (same1 (A := ?b) ?h); (case h => assumption); walk_at "ex")
  | (refine Same.on ?r (same2 (A := ?b) ?h); (case h => assumption); walk_at "ex")
  | (refine Same.on ?r (hol_le (M := ?m)); walk_at "ey"))
local macro_rules | `(tactic| walk_at "dom") => `(tactic| first
  | assumption
  | exact Dom.nil
  | (refine Dom.mono (H := ?b) ?h ?d; (case h => assumption); walk_at "dom")
  | (refine dom_draw (p := ?p) (l := ?l) (ns := ?ns) (A := ?b) ?h ?c ?d; (case h => assumption); (case c => assumption); walk_at "dom")
  | (refine Dom.cons (o := ?o) ?h ?d; (case h => assumption); walk_at "dom")
  | (refine Dom.holm (A := ?b) (N := ?n) ?h ?d; (case h => assumption); walk_at "dom")
  | (refine Upd.dom (l := ?l) (H := ?b) (o := ?o) ?h ?e ?d; (case h => assumption); (case e => assumption); walk_at "dom"))
local macro_rules | `(tactic| walk_at "pl") => `(tactic| first
  | assumption
  | (refine Pl.same (A := ?b) ?s ?h; (case s => assumption); walk_at "pl"))
local macro_rules | `(tactic| walk_at "is") => `(tactic| first
  | assumption
  | exact Is.int _
  | exact Is.str _
  | exact Is.bl _
  | exact Is.non
  | (refine Is.mono (H := ?b) ?s ?h; (case h => assumption); walk_at "ex"))
local macro_rules | `(tactic| walk_at "isa") => `(tactic| first
  | exact IsA.nil
  | (refine IsA.cons (d := ?x) (ds := ?xs) ?a ?b; (case a => walk_at "is"); (case b => walk_at "isa"))
  | (refine IsA.mono (H := ?b) ?s ?h; (case h => assumption); walk_at "ex"))
local macro_rules | `(tactic| walk_at "at") => `(tactic| first
  | exact at0
  | exact at1
  | exact at2
  | exact at3
  | exact at4
  | (refine atM (a := ?a) ?h; (case h => assumption))
  | (refine atJ (a := ?a) ?h; (case h => assumption)))
local macro_rules | `(tactic| walk_at "sc") => `(tactic| (intro v hv; first
  | ((with_reducible have e := Is.int_inv hv); subst e; clear hv)
  | ((with_reducible have e := Is.str_inv hv); subst e; clear hv)
  | ((with_reducible have e := Is.bool_inv hv); subst e; clear hv)
  | ((with_reducible have e := Is.none_inv hv); subst e; clear hv)
  | skip))
local macro_rules | `(tactic| walk_at "g") => `(tactic| first
  | with_reducible refine g_seq ?_
  | with_reducible refine g_asg ?_
  | with_reducible refine g_ret ?_
  | with_reducible refine g_drop ?_
  | with_reducible refine g_ifS ?_
  | with_reducible refine g_next ?_
  | with_reducible refine g_break ?_
  | with_reducible refine g_for ?_
  | with_reducible refine g_op ?_
  | ((with_reducible refine g_var (v := ?v) ?h ?k); (case h => exact rfl))
  | with_reducible refine g_c ?_
  | with_reducible refine g_I0 ?_
  | with_reducible refine g_U ?_
  | with_reducible refine g_cons ?_
  | with_reducible refine g_nil ?_
  | with_reducible refine g_cb ?_
  | with_reducible refine g_call ?_
  | with_reducible refine g_test ?_
  | with_reducible refine g_bl ?_
  | with_reducible refine g_int ?_
  | with_reducible refine g_B ?_
  | ((with_reducible refine g_wipe ?e ?k); (case e => exact rfl))
  | with_reducible refine g_iteT ?_
  | with_reducible refine g_iteF ?_
  | with_reducible refine g_iteNT ?_
  | with_reducible refine g_iteNF ?_
  | with_reducible refine g_andK ?_
  | with_reducible refine g_orK ?_
  | with_reducible refine g_notK ?_
  | ((with_reducible refine w_tupK (B := ?b) (ds := ?ds) ?s ?h ?k); (case h => assumption); (case s => walk_at "ex"); intro a S)
  | ((with_reducible refine w_listK (B := ?b) (ds := ?ds) ?s ?h ?k); (case h => assumption); (case s => walk_at "ex"); intro a S)
  | ((with_reducible refine w_enumK (B := ?b) (ds := ?ds) ?s ?h ?k); (case h => assumption); (case s => walk_at "ex"); intro a S)
  | ((with_reducible refine w_enumTK (B := ?b) (ds := ?ds) ?s ?h ?k); (case h => assumption); (case s => walk_at "ex"); intro a S)
  | ((with_reducible refine w_zipK (B := ?b) (ds := ?ds) (es := ?es) ?s ?h ?h' ?k); (case h => assumption); (case h' => walk_at "is"); (case s => walk_at "ex"); intro a b S)
  | ((with_reducible refine w_zipMK (B := ?b) (ds := ?ds) (es := ?es) ?s ?h ?h' ?k); (case h => assumption); (case h' => walk_at "is"); (case s => walk_at "ex"); intro a b S)
  | ((with_reducible refine w_zipTK (B := ?b) (ds := ?ds) (es := ?es) ?s ?h ?h' ?k); (case h => assumption); (case h' => walk_at "is"); (case s => walk_at "ex"); intro a b S)
  | ((with_reducible refine g_listOf (M := ?m) (ds := ?ds) ?c ?d ?h ?k); (case c => assumption); (case d => walk_at "dom"); (case h => first | (refine Or.inl ?_; walk_at "is") | (refine Or.inr ?_; walk_at "is")); intro v H' hs hv)
  | ((with_reducible refine g_tupOf (M := ?m) (ds := ?ds) ?c ?d ?h ?k); (case c => assumption); (case d => walk_at "dom"); (case h => walk_at "is"); intro v H' hs hv)
  | ((with_reducible refine g_tupK (M := ?m) (ds := ?ds) ?c ?d ?h ?l ?k); (case c => assumption); (case d => walk_at "dom"); (case h => walk_at "isa"); (case l => (simp only [List.length_cons, List.length_nil]; omega)); intro v H' hs hv)
  | ((with_reducible refine g_tupT (M := ?m) (ds := ?ds) ?c ?h ?e ?k); (case c => assumption); (case h => walk_at "is"); (case e => rfl); intro xs hxs)
  | ((with_reducible refine g_fldK (C := ?c) (dx := ?dx) (fs := ?fs) (v := ?v) ?h ?cl ?na ?l ?k); (case h => assumption); (case cl => assumption); (case na => assumption); (case l => first | assumption | exact rfl))
  | ((with_reducible refine g_fldM (C := ?c) (dx := ?dx) (fs := ?fs) ?h ?cl ?na ?hl ?k); (case h => assumption); (case cl => assumption); (case na => assumption); (case hl => exact Nat.le_of_ble_eq_true rfl); intro H' u hx)
  | ((with_reducible refine g_ixM (xs := ?xs) (v := ?v) ?h ?e ?k); (case h => assumption); (case e => first | exact at0 | exact at1 | exact at2 | exact at3 | exact at4))
  | ((with_reducible refine g_lenM (xs := ?xs) ?h ?k); (case h => assumption))
  | ((with_reducible refine g_mul ?h ?k); (case h => decide))
  | ((with_reducible refine g_mod ?h ?k); (case h => first | decide | assumption | omega))
  | ((with_reducible refine g_div ?h ?l ?k); (case h => first | decide | assumption | omega); (case l => first | decide | assumption | omega))
  | ((with_reducible refine g_subM (xs := ?xs) (k := ?n) ?h ?j ?k); (case h => assumption); (case j => exact rfl); intro H' u hp)
  | ((with_reducible refine g_isi (t := ?t) (b := ?b) ?ty ?e ?k); (case ty => assumption); (case e => first | exact kit_NoneType_tuple | exact kit_NoneType_list | exact kit_NoneType_bool | exact kit_NoneType_int | exact kit_int_tuple | exact kit_int_list | exact kit_int_bool | exact kit_int_int | exact kit_list_tuple | exact kit_list_list | exact kit_list_bool | exact kit_list_int | exact kit_tuple_tuple | exact kit_tuple_list | exact kit_tuple_bool | exact kit_tuple_int))
  | ((with_reducible refine g_draw (l := ?l) (ns := ?ns) ?a ?b ?h ?k); (case a => first | decide | omega); (case b => first | decide | omega); (case h => walk_at "pl"); intro r H' h0 h1 hs pl)
  | ((with_reducible refine g_dgetS (v := ?v) (kvs := ?kvs) ?h ?e ?k); (case h => assumption); (case e => assumption))
  | with_reducible refine g_and ?_
  | with_reducible refine w_keys ?_
  | with_reducible refine w_rng3 ?_
  | with_reducible refine w_items ?_
  | with_reducible refine g_or ?_
  | with_reducible refine g_not ?_
  | with_reducible refine g_yes ?_
  | with_reducible refine g_tru ?_
  | with_reducible refine g_fld ?_
  | with_reducible refine g_meth ?_
  | with_reducible refine g_make ?_
  | with_reducible refine g_tupE ?_
  | with_reducible refine g_lstE ?_
  | with_reducible refine g_sl ?_
  | with_reducible refine g_part ?_
  | with_reducible refine g_nopart ?_
  | with_reducible refine g_bm ?_
  | with_reducible refine g_bm0 ?_
  | with_reducible refine g_if ?_
  | with_reducible refine g_un ?_
  | with_reducible refine g_isN ?_
  | with_reducible refine g_notN ?_
  | with_reducible refine g_andV ?_
  | with_reducible refine g_orV ?_
  | with_reducible refine g_notV ?_
  | with_reducible refine g_lc ?_
  | with_reducible refine g_dget ?_
  | with_reducible refine g_din ?_
  | with_reducible refine g_dnotin ?_
  | with_reducible refine g_fldS ?_
  | with_reducible refine g_dput ?_
  | with_reducible refine g_sub ?_
  | with_reducible refine g_consT ?_
  | with_reducible refine g_nilT ?_
  | ((with_reducible refine g_name (σ' := ?s) ?h ?k); (case h => (dsimp only [List.set]; exact rfl)))
  | with_reducible refine w_list ?_
  | with_reducible refine w_tup ?_
  | with_reducible refine w_rng1 ?_
  | with_reducible refine w_enumT ?_
  | with_reducible refine w_enum ?_
  | with_reducible refine w_zip ?_
  | with_reducible refine w_zipM ?_
  | with_reducible refine w_zipA ?_
  | with_reducible refine w_rng ?_
  | with_reducible refine g_int1 ?_
  | ((with_reducible refine g_ixT (M := ?m) (ds := ?ds) (d := ?d) ?c ?h ?e ?k); (case c => assumption); (case h => walk_at "is"); (case e => walk_at "at"); walk_at "sc")
  | ((with_reducible refine g_ixL (M := ?m) (ds := ?ds) (d := ?d) ?c ?h ?e ?k); (case c => assumption); (case h => walk_at "is"); (case e => walk_at "at"); walk_at "sc")
  | ((with_reducible refine g_lenL (M := ?m) (ds := ?ds) ?c ?h ?k); (case c => assumption); (case h => walk_at "is"))
  | ((with_reducible refine g_lenT (M := ?m) (ds := ?ds) ?c ?h ?k); (case c => assumption); (case h => walk_at "is")))
local macro_rules | `(tactic| walk_at "len") => `(tactic| ((try simp only [List.length_map, List.length_append, List.length_cons, List.length_nil, List.length_range, List.length_zip]); omega))
local macro_rules | `(tactic| walk_at "gg") => `(tactic| repeat walk_at "g")
def spBits : Sp := SpF (fun q : Int × Int => [.int q.1, .int q.2]) (fun q => 0 ≤ q.2 ∧ q.2 ≤ 64) fun _ d => ∃ bs : List Bool, bs.length ≤ 64 ∧ d = .tuple (bs.map PyData.bool)
theorem r_bits {K : PySem.W.Frag} {vs : List V} {H : Hp} {Q : VK} {E : XK} {n b c : L2.St → Hp → Prop} (h : spBits vs H Q E) : rd_w_bits K ⟨n, Q, b, c⟩ (start N_w_bits vs) H := by
  obtain ⟨M, ⟨i, m⟩, dm, ⟨h1, h2⟩, hv, k⟩ := h
  dsimp only at h1 h2 hv k
  obtain ⟨v, r, rfl, is1, hr⟩ := hv.cons_inv
  obtain ⟨v2, r, rfl, is2, hr⟩ := hr.cons_inv
  obtain rfl := hr.nil_inv
  obtain rfl := is1.int_inv
  obtain rfl := is2.int_inv
  have cu := Sg.cur M
  show rd_w_bits K _ [some (.int i), some (.int m), none, none] H
  unfold rd_w_bits
  walk_at "gg"
  refine g_lstM cu (Nat.le_of_ble_eq_true rfl) (fun L H1 hL s1 hL1 s1' s1'' => ?_)
  walk_at "gg"
  refine w_rng1K (n := m.toNat) (by omega) (by omega) ?_
  refine for_map (l := List.range m.toNat) (enc := fun i : Nat => PyData.int ((i : Nat) : Int)) (src_range (B := H)) (fun j σ H' => ∃ (a : Int) (bs : List Bool) (o3 : Option V), σ = [some (.int a), some (.int m), some (.ref L), o3] ∧ H' L = some (.lst (bs.map V.bl)) ∧ bs.length ≤ j ∧ Same H (hol [L] H')) ⟨_, [], none, rfl, hL1, Nat.le_refl _, s1''⟩ (fun j σ H' p => ?_) (fun j a y σ H6 H7 ha p s67 isx => ?_) (fun σ H2 p => ?_)
  · obtain ⟨_, _, _, _, _, _, s6⟩ := p
    walk_at "ex"
  · obtain ⟨a', bs, o3, rfl, hL6, bl, s6⟩ := p
    obtain rfl := (isx [] .nil (s6.trans hol_le)).int_inv
    have jl := (List.getElem?_eq_some_iff.mp ha).1
    rw [List.length_range] at jl
    have hL7 := s67 _ _ hL6
    walk_at "gg"
    unfold b1_w_bits
    walk_at "gg"
    refine g_ty hL7 ?_
    walk_at "gg"
    refine g_eq rfl ?_
    walk_at "gg"
    refine g_app hL7 (by rw [List.length_map]; omega) (fun H8 u8 hL8 => ?_)
    walk_at "gg"
    exact ⟨_, bs ++ [_], _, rfl, by rw [hL8, List.map_append]; rfl, by rw [List.length_append, List.length_singleton]; omega, (s6.trans (same_hol (M := [L]) s67)).trans (u8.hol (by simp))⟩
  · obtain ⟨a', bs, o3, rfl, hL6, bl, s6⟩ := p
    rw [List.length_range] at bl
    have cu2 := Sg.cur M
    have dm2 : Dom M H2 := by walk_at "dom"
    have hLM : L ∉ M := dm.not hL
    have isL : Is (hol M H2) (.list (bs.map PyData.bool)) (.ref L) := .lst (hol_some.mpr ⟨hLM, hL6⟩) (IsA.of_bools bs)
    walk_at "gg"
    exact k _ _ _ ⟨bs, by omega, rfl⟩ (by walk_at "ex") (by assumption)
theorem ok_bits {P : Program} {w : World} {K : PySem.W.Frag} {mg : Str → Option Value} {base : Heap} {f : Addr} {fd : FuncData} (F : Fun K "_law_bits" "_law_bits" s_w_bits f fd) (T : Bl mg) : FnOk P w K mg base CX0 1 f fd ["_law_index", "_law_many"] spBits :=
  F.ok sc_w_bits (fun vs H Q E h => SpF.len (n := 2) (fun _ => rfl) h) fun cdv A outer s H vs Q E hr h => ⟨_, dv_w_bits T hr, r_bits h⟩
theorem size_at {m : Int} (h0 : 0 ≤ m) (h1 : m ≤ 3) : ∃ z : Int, atI [V.int 1, V.int 2, V.int 4, V.int 8, V.int 16, V.int 32, V.int 64] m = some (.int z) ∧ 0 < z ∧ z ≤ 64 := by
  have : m = 0 ∨ m = 1 ∨ m = 2 ∨ m = 3 := by omega
  rcases this with rfl | rfl | rfl | rfl
  · exact ⟨1, rfl, by decide, by decide⟩
  · exact ⟨2, rfl, by decide, by decide⟩
  · exact ⟨4, rfl, by decide, by decide⟩
  · exact ⟨8, rfl, by decide, by decide⟩
theorem low_at {m : Int} (h0 : 0 ≤ m) (h1 : m < 3) : ∃ z : Int, atI [V.int 1, V.int 2, V.int 4, V.int 8, V.int 16, V.int 32] m = some (.int z) ∧ 0 < z ∧ z ≤ 64 := by
  have : m = 0 ∨ m = 1 ∨ m = 2 := by omega
  rcases this with rfl | rfl | rfl
  · exact ⟨1, rfl, by decide, by decide⟩
  · exact ⟨2, rfl, by decide, by decide⟩
  · exact ⟨4, rfl, by decide, by decide⟩
def spTable : Sp := fun vs H Q _ => ∃ (p l : Addr) (ns : List Int) (M : List Addr) (m : Int), vs = [.ref p, .int m] ∧ Dom (p :: M) H ∧ Pl p l ns H ∧ 0 ≤ m ∧ m ≤ 3 ∧ ∀ d v H', Same (hol [p] H) (hol [p] H') → Pl p l ns H' → Is (hol (p :: M) H') d v → Q v H'
theorem r_table {K : PySem.W.Frag} {vs : List V} {H : Hp} {Q : VK} {E : XK} {n b c : L2.St → Hp → Prop} (h : spTable vs H Q E) : rd_w_table K spBits spDraw ⟨n, Q, b, c⟩ (start N_w_table vs) H := by
  obtain ⟨p, l, ns, M, m, rfl, dm, pl, m0, m3, k⟩ := h
  have cu := Sg.cur (p :: M)
  obtain ⟨z, hz, z0, z64⟩ := size_at m0 m3
  show rd_w_table K _ _ _ [some (.ref p), some (.int m), none, none, none, none, none, none, none, none] H
  unfold rd_w_table
  walk_at "gg"
  refine g_lstM cu (Nat.le_of_ble_eq_true rfl) (fun L1 H1 hL1 s1 h1 _ _ => ?_)
  have pl1 := pl.same s1
  have dm1 := dm.mono s1
  have sA : Same (hol [p] H) (hol [p] H1) := same_hol s1
  clear pl dm
  walk_at "gg"
  refine g_ixM h1 hz ?_
  walk_at "gg"
  rename_i r2 H2 _ _ s2 pl2
  have dm2 : Dom (p :: M) H2 := by walk_at "dom"
  have sB := sA.trans s2
  clear sA s2 pl1 dm1
  walk_at "gg"
  refine g_eq rfl ?_
  walk_at "gg"
  refine g_ite (fun _ => ?_) (fun _ => ?_)
  · walk_at "gg"
    rename_i r3 H3 _ _ s3 pl3
    refine g_eq rfl ?_
    walk_at "gg"
    have dm3 : Dom (p :: M) H3 := by walk_at "dom"
    refine w_rng1K (n := z.toNat) (by omega) (by omega) ?_
    refine lc_map (l := List.range z.toNat) (enc := fun i : Nat => PyData.int ((i : Nat) : Int)) (src_range (B := hol (p :: M) H3)) (fun _ => some (.bool (decide (V.int r3 = V.int 1)))) cu dm3 (Same.refl _) (by rw [List.length_range]; omega) (fun i a x L H' Y No hd cu dm' sM s0 isx kY kN => ?_) (fun v4 H4 s4 is4 => ?_)
    · show gName 9 x [some (.ref p), some (.int m), some (.int z), some (.int r2), none, some (.bl (decide (V.int r3 = V.int 1))), none, none, none, none] H' _
      walk_at "gg"
      exact kY _ _ _ (Same.refl _) (Is.bl _) rfl
    · have dm4 := dm3.mono s4
      walk_at "gg"
      rename_i v5 H5 s5 is5
      exact k _ _ _ (((sB.trans s3).trans (same_hol s4)).trans (same_hol s5)) ((pl3.same s4).same s5) is5
  walk_at "gg"
  refine g_eq rfl ?_
  walk_at "gg"
  have rest : ∀ o6, (tSeq (tIfS (tTest (tOp rEq (tVar 3) (tC (.int 2)))) (tSeq (tAsg (tCall spDraw [] E0 (tCons (tVar 0) (tCons (tVar 2) tNil))) (gName 7))
    (tRet (tCB (rTupQ K) (tCons (tLc (iRng1 (tCons (tVar 2) tNil)) (gName 9) tYes (tOp rEq (tVar 9) (tVar 7)) [9]) tNil)))) tNext)
    (tSeq (tAsg (tCall spDraw [] E0 (tCons (tVar 0) (tCons (tOp (rI CPow fun i j => .int (i ^ j.toNat)) (tC (.int 2)) (tC (.int 64))) tNil))) (gName 4))
    (tRet (tCB (rTupQ K) (tCons (tLc (iTup K (tCall spBits [] E0 (tCons (tVar 4) (tCons (tVar 2) tNil)))) (gName 8) tYes (tVar 8) [8]) tNil)))))
      ⟨n, Q, b, c⟩ [some (.ref p), some (.int m), some (.int z), some (.int r2), none, none, o6, none, none, none] H2 := fun o6 => by
    walk_at "gg"
    refine g_eq rfl ?_
    walk_at "gg"
    refine g_ite (fun _ => ?_) (fun _ => ?_)
    · walk_at "gg"
      rename_i r3 H3 _ _ s3 pl3
      have dm3 : Dom (p :: M) H3 := by walk_at "dom"
      refine w_rng1K (n := z.toNat) (by omega) (by omega) ?_
      refine lc_map (l := List.range z.toNat) (enc := fun i : Nat => PyData.int ((i : Nat) : Int)) (src_range (B := hol (p :: M) H3)) (fun i => some (.bool (decide (V.int ((i : Nat) : Int) = V.int r3)))) cu dm3 (Same.refl _) (by rw [List.length_range]; omega) (fun i a x L H' Y No hd cu dm' sM s0 isx kY kN => ?_) (fun v4 H4 s4 is4 => ?_)
      · obtain rfl := isx.int_inv
        show gName 9 _ [some (.ref p), some (.int m), some (.int z), some (.int r2), none, none, o6, some (.int r3), none, none] H' _
        walk_at "gg"
        refine g_eq rfl ?_
        exact kY _ _ _ (Same.refl _) (Is.bl _) rfl
      · have dm4 := dm3.mono s4
        walk_at "gg"
        rename_i v5 H5 s5 is5
        exact k _ _ _ (((sB.trans s3).trans (same_hol s4)).trans (same_hol s5)) ((pl3.same s4).same s5) is5
    walk_at "gg"
    refine g_I ⟨by decide, by decide, by decide⟩ ?_
    walk_at "gg"
    rename_i r3 H3 _ _ s3 pl3
    have dm3 : Dom (p :: M) H3 := by walk_at "dom"
    refine g_SpF (α := Int × Int) cu (r3, z) dm3 (.cons (.int _) (.cons (.int _) .nil)) ⟨by omega, by omega⟩ (fun d v4 H4 hd s4 is4 => ?_)
    obtain ⟨bs, bl, rfl⟩ := hd
    have dm4 := dm3.mono s4
    walk_at "gg"
    refine lc_map ‹Src _ _ (bs.map PyData.bool)› (fun z => some (.bool z)) cu dm4 (Same.refl _) (by omega) (fun i a x L H' Y No hd cu dm' sM s0 isx kY kN => ?_) (fun v5 H5 s5 is5 => ?_)
    · obtain rfl := isx.bool_inv
      show gName 8 _ [some (.ref p), some (.int m), some (.int z), some (.int r2), some (.int r3), none, o6, none, none, none] H' _
      walk_at "gg"
      exact kY _ _ _ (Same.refl _) (Is.bl _) rfl
    · have dm5 := dm4.mono s5
      walk_at "gg"
      rename_i v6 H6 s6 is6
      exact k _ _ _ ((((sB.trans s3).trans (same_hol s4)).trans (same_hol s5)).trans (same_hol s6)) (((pl3.same s4).same s5).same s6) is6
  refine g_ite (fun _ => ?_) (fun _ => ?_)
  · walk_at "gg"
    refine g_ite (fun hm => ?_) (fun _ => ?_)
    · have hm := of_decide_eq_true hm
      walk_at "gg"
      refine g_lstM cu (Nat.le_of_ble_eq_true rfl) (fun L3 H3 hL3 s3 h3 _ _ => ?_)
      have pl3 := pl2.same s3
      walk_at "gg"
      rename_i r4 H4 r40 r4m s4 pl4
      obtain ⟨w, hw, w0, w64⟩ := low_at r40 (by omega : r4 < 3)
      have ne : L3 ≠ p := by
        intro q
        obtain ⟨_, _, _, _, _, hc, _⟩ := pl2
        rw [q, hc] at hL3
        cases hL3
      have h4 := hol_le _ _ (s4 _ _ (hol_some.mpr ⟨by simp [ne], h3⟩))
      have dm3 : Dom (p :: M) H3 := dm2.mono s3
      have dm4 : Dom (p :: M) H4 := by walk_at "dom"
      refine g_ixM h4 hw ?_
      walk_at "gg"
      refine w_rng1K (n := z.toNat) (by omega) (by omega) ?_
      refine lc_map (l := List.range z.toNat) (enc := fun i : Nat => PyData.int ((i : Nat) : Int)) (src_range (B := hol (p :: M) H4)) (fun i => some (.bool (decide (V.int (((i : Nat) : Int) / w % 2) = V.int 1)))) cu dm4 (Same.refl _) (by rw [List.length_range]; omega) (fun i a x L H' Y No hd cu dm' sM s0 isx kY kN => ?_) (fun v5 H5 s5 is5 => ?_)
      · obtain rfl := isx.int_inv
        show gName 9 _ [some (.ref p), some (.int m), some (.int z), some (.int r2), none, none, some (.int w), none, none, none] H' _
        walk_at "gg"
        refine g_eq rfl ?_
        exact kY _ _ _ (Same.refl _) (Is.bl _) rfl
      · have dm5 := dm4.mono s5
        walk_at "gg"
        rename_i v6 H6 s6 is6
        exact k _ _ _ ((((sB.trans (same_hol s3)).trans s4).trans (same_hol s5)).trans (same_hol s6)) ((pl4.same s5).same s6) is6
    · iterate 2 walk_at "g"
      exact rest _
  · iterate 3 walk_at "g"
    exact rest _
theorem ok_table {P : Program} {w : World} {K : PySem.W.Frag} {mg : Str → Option Value} {base : Heap} {f : Addr} {fd : FuncData} (F : Fun K "_law_table" "_law_table" s_w_table f fd) (T : Bl mg) (c1 : Cal P w K mg base 1 "_law_bits" spBits) (c2 : Cal P w K mg base 2 "_law_draw" spDraw) : FnOk P w K mg base CX0 3 f fd ["_law_pool_here", "_law_many"] spTable :=
  F.ok sc_w_table (fun vs H Q E h => by
    obtain ⟨_, _, _, _, _, rfl, _⟩ := h
    rfl) fun cdv A outer s H vs Q E hr h => ⟨_, dv_w_table T c1 c2 hr, r_table h⟩

end Sg
namespace Sg
open PySem PySem.Spec PyProof.Rows L2
section
variable {A B C H : Hp} {T N M : List Addr} {p l L a : Addr} {ns : List Int} {o : HO} {ds : List PyData} {xs : List V} {K : PySem.W.Frag} {Q : VK} {x : V}
theorem ch_at (h : Same (hol T A) (hol T B)) (ha : a ∉ T) (e : A a = some o) : B a = some o := hol_le _ _ (h a o (hol_some.mpr ⟨ha, e⟩))
theorem ch_is (h : Same (hol T A) (hol T B)) (ht : ∀ t ∈ T, t ∈ N) : Same (hol N A) (hol N B) := hol_weak ht h
theorem ch_dom (h : Same (hol [L, p] A) (hol [L, p] B)) (hL : B L = some o) (pl : Pl p l ns B) (d : Dom M A) : Dom M B := fun m hm => by
  obtain ⟨u, e⟩ := d m hm
  by_cases q : m = p
  · obtain ⟨_, _, _, _, _, hc, _⟩ := pl
    rw [q]
    exact ⟨_, hc⟩
  · by_cases q2 : m = L
    · rw [q2]; exact ⟨_, hL⟩
    · exact ⟨u, ch_at h (by simp [q, q2]) e⟩
theorem lst_fin (h : H L = some (.lst xs)) (r : IsA (hol (L :: N) H) ds xs) (ne : L ∉ N) : Is (hol N H) (.list ds) (.ref L) := .lst (hol_some.mpr ⟨ne, h⟩) (r.mono hol_sub)
theorem ch_new (h1 : Same A (hol [L] B)) (h2 : Same (hol [L, p] B) (hol [L, p] C)) : Same (hol [p] A) (hol [p] C) := ((same_hol (M := [p]) h1).trans h2).trans (hol_sub (L := L) (M := [p]))
theorem g_listM (cu : Cur M) (dm : Dom M H) (h : Is (hol M H) (.list ds) x) (k : ∀ L H' xs, H L = none → Same H H' → H' L = some (.lst xs) → IsA (hol (L :: M) H') ds xs → Same (hol M H) (hol (L :: M) H') → Same H (hol [L] H') → Q (.ref L) H') : rListQ K [x] H Q := by
  obtain ⟨a, xs, rfl, h1, h2⟩ := h.lst_inv
  exact ⟨a, xs, rfl, .inl (.inl (.inl (hol_le _ _ h1))), fun L hL => k L _ xs hL (Same.new hL) upd_same (h2.mono (hol_mut hL)) (hol_mut hL) (hol_mut (M := []) hL)⟩
theorem pl_ne (h : Pl p l ns H) (f : H a = none) : a ≠ p ∧ a ≠ l := h.ne (f := f)
end
end Sg
namespace Sg
open PySem PySem.Spec PyProof.Rows L2
def nm (s : Str) (k : Nat) : Str := s ++ ((toString ((k : Nat) : Int) : String) : Str)
def letters : List Str := ["i", "r", "g"]
theorem nm_inj : ∀ s ∈ letters, ∀ t ∈ letters, ∀ i, i < 6 → ∀ j, j < 6 → nm s i = nm t j → s = t ∧ i = j := by decide +kernel
theorem nm_len : ∀ s ∈ letters, ∀ i, i < 6 → (nm s i).length ≤ 5 := by decide +kernel
theorem nm_add : ∀ s ∈ (["i", "r", "g", "p"] : List Str), ∀ i, i < 6 → s.length + (((toString ((i : Nat) : Int) : String) : Str)).length < 100000 := by decide +kernel
def nms (s : Str) (n : Nat) : List Str := (List.range n).map (nm s)
theorem nms_nodup {s : Str} (hs : s ∈ letters) {n : Nat} (hn : n ≤ 6) : (nms s n).Nodup := by
  unfold nms
  rw [List.nodup_iff_pairwise_ne, List.pairwise_map]
  refine List.Pairwise.imp_of_mem ?_ List.pairwise_lt_range
  intro a b ha hb hab e
  rw [List.mem_range] at ha hb
  have := (nm_inj s hs s hs a (by omega) b (by omega) e).2
  omega
theorem nms_apart {s t : Str} (hs : s ∈ letters) (ht : t ∈ letters) (ne : s ≠ t) {n m : Nat} (hn : n ≤ 6) (hm : m ≤ 6) : ∀ a ∈ nms s n, ∀ b ∈ nms t m, a ≠ b := by
  intro a ha b hb e
  unfold nms at ha hb
  obtain ⟨i, hi, rfl⟩ := List.mem_map.mp ha
  obtain ⟨j, hj, rfl⟩ := List.mem_map.mp hb
  rw [List.mem_range] at hi hj
  exact ne (nm_inj s hs t ht i (by omega) j (by omega) e).1
theorem hol_anti {N M : List Addr} {H : Hp} (h : ∀ a ∈ N, a ∈ M) : Same (hol M H) (hol N H) := fun b o e => by
  obtain ⟨h1, h2⟩ := hol_some.mp e
  exact hol_some.mpr ⟨fun m => h1 (h b m), h2⟩
theorem g_catS {H : Hp} {Q : VK} {x y : V} {M : List Addr} {xs ys : List Str} (cu : Cur M) (h : Is (hol M H) (.list (xs.map PyData.str)) x) (h' : Is (hol M H) (.list (ys.map PyData.str)) y) (hz : xs.length + ys.length < 100000)
    (k : ∀ L H', H L = none → Same H H' → H' L = some (.lst ((xs ++ ys).map V.str)) → Same (hol M H) (hol (L :: M) H') → Same H (hol [L] H') → Q (.ref L) H') : rCat x y H Q := by
  obtain ⟨a, us, rfl, h1, h2⟩ := h.lst_inv
  obtain ⟨a', us', rfl, h1', h2'⟩ := h'.lst_inv
  rw [h2.strs] at h1
  rw [h2'.strs] at h1'
  refine ⟨a, a', _, _, rfl, rfl, hol_le _ _ h1, hol_le _ _ h1', by rw [List.length_map, List.length_map]; exact small hz, fun p hp => ?_⟩
  rw [← List.map_append]
  exact k p _ hp (Same.new hp) upd_same (hol_mut hp) (hol_mut (M := []) hp)
theorem pin_at {m : Int} (h0 : 0 ≤ m) (h1 : m < 6) : ∃ z : Int, atI [V.int 1, V.int 2, V.int 2, V.int 3, V.int 0, V.int 1] m = some (.int z) ∧ 0 ≤ z ∧ z ≤ 3 := by
  have : m = 0 ∨ m = 1 ∨ m = 2 ∨ m = 3 ∨ m = 4 ∨ m = 5 := by omega
  rcases this with rfl | rfl | rfl | rfl | rfl | rfl
  · exact ⟨1, rfl, by decide, by decide⟩
  · exact ⟨2, rfl, by decide, by decide⟩
  · exact ⟨2, rfl, by decide, by decide⟩
  · exact ⟨3, rfl, by decide, by decide⟩
  · exact ⟨0, rfl, by decide, by decide⟩
  · exact ⟨1, rfl, by decide, by decide⟩
theorem str_at {l : List Str} {r : Int} (h0 : 0 ≤ r) (h1 : r < ((l.map V.str).length : Int)) : ∃ s, s ∈ l ∧ atI (l.map V.str) r = some (.str s) := by
  rw [List.length_map] at h1
  obtain ⟨k, rfl⟩ := Int.eq_ofNat_of_zero_le h0
  have hk : k < l.length := by omega
  exact ⟨l[k], List.getElem_mem hk, atM (List.getElem?_eq_getElem hk)⟩
structure GS (sn : List Str) (gs : List Gate) : Prop where
  names : gs.map (·.name) = nms "g" gs.length
  pins : ∀ g ∈ gs, g.rngs.length = g.nets.length ∧ g.nets.length ≤ 3
  rank : ∃ r : Str → Nat, (∀ g ∈ gs, ∀ n ∈ g.nets, n ∈ sn ∨ (n ∈ gs.map (·.name) ∧ r n < r g.name)) ∧ ∀ n ∈ sn ++ gs.map (·.name), r n ≤ gs.length
theorem GS.nil (sn : List Str) : GS sn [] := ⟨rfl, fun _ h => by simp at h, fun _ => 0, fun _ h => by simp at h, fun _ _ => Nat.le_refl _⟩
theorem GS.snoc {sn : List Str} {gs : List Gate} {g : Gate} (h : GS sn gs) (hn : g.name = nm "g" gs.length) (new : g.name ∉ sn ++ gs.map (·.name)) (hp : g.rngs.length = g.nets.length ∧ g.nets.length ≤ 3) (hm : ∀ n ∈ g.nets, n ∈ sn ++ gs.map (·.name)) : GS sn (gs ++ [g]) := by
  obtain ⟨r, h1, h2⟩ := h.rank
  refine ⟨?_, fun x hx => ?_, fun n => if n = g.name then gs.length + 1 else r n, fun x hx n hxn => ?_, fun n hxn => ?_⟩
  · rw [List.map_append, h.names, List.length_append, List.length_singleton]
    unfold nms
    rw [List.range_succ, List.map_append, List.map_singleton, List.map_singleton, hn]
  · rcases List.mem_append.mp hx with q | q
    · exact h.pins x q
    · simp at q
      rw [q]
      exact hp
  · have nn : ∀ m, m ∈ sn ++ gs.map (·.name) → ¬ m = g.name := fun m hm' e => new (e ▸ hm')
    rcases List.mem_append.mp hx with q | q
    · rcases h1 x q n hxn with z | ⟨z1, z2⟩
      · exact .inl z
      · right
        refine ⟨by rw [List.map_append]; exact List.mem_append_left _ z1, ?_⟩
        show (if n = g.name then gs.length + 1 else r n) < (if x.name = g.name then gs.length + 1 else r x.name)
        rw [if_neg (nn n (List.mem_append_right _ z1)), if_neg (nn x.name (List.mem_append_right _ (List.mem_map.mpr ⟨x, q, rfl⟩)))]
        exact z2
    · simp at q
      subst q
      have hm' := hm n hxn
      have le := h2 n hm'
      rcases List.mem_append.mp hm' with z | z
      · exact .inl z
      · right
        refine ⟨by rw [List.map_append]; exact List.mem_append_left _ z, ?_⟩
        show (if n = x.name then gs.length + 1 else r n) < (if x.name = x.name then gs.length + 1 else r x.name)
        rw [if_neg (nn n hm'), if_pos rfl]
        omega
  · show (if n = g.name then gs.length + 1 else r n) ≤ _
    rw [List.length_append, List.length_singleton]
    by_cases e : n = g.name
    · rw [if_pos e]; exact Nat.le_refl _
    · rw [if_neg e]
      rw [List.map_append, ← List.append_assoc] at hxn
      rcases List.mem_append.mp hxn with q | q
      · have := h2 n q
        omega
      · simp at q
        exact absurd q e
theorem perm_map {α : Type} {f : α → PyData} : ∀ {ds es : List PyData}, ds.Perm es → ∀ l : List α, es = l.map f → ∃ l' : List α, l'.Perm l ∧ ds = l'.map f := by
  intro ds es h
  induction h with
  | nil =>
    intro l e
    have : l = [] := by cases l with | nil => rfl | cons _ _ => simp at e
    exact ⟨[], by rw [this], rfl⟩
  | cons x _ ih =>
    intro l e
    cases l with
    | nil => simp at e
    | cons a l =>
      rw [List.map_cons] at e
      injection e with e1 e2
      obtain ⟨l', h1, h2⟩ := ih l e2
      exact ⟨a :: l', h1.cons a, by rw [List.map_cons, ← e1, h2]⟩
  | swap x y r =>
    intro l e
    cases l with
    | nil => simp at e
    | cons a l =>
      cases l with
      | nil => simp at e
      | cons b l =>
        simp only [List.map_cons] at e
        injection e with e1 e2
        injection e2 with e2 e3
        exact ⟨b :: a :: l, List.Perm.swap a b l, by simp only [List.map_cons]; rw [← e1, ← e2, e3]⟩
  | trans _ _ ih1 ih2 =>
    intro l e
    obtain ⟨l2, h3, h4⟩ := ih2 l e
    obtain ⟨l1, h5, h6⟩ := ih1 l2 h4
    exact ⟨l1, h5.trans h3, h6⟩
theorem GS.sound {a b : Nat} {gs gs' : List Gate} {regs : List (Str × List PyData)} {outs : PyData} (ha : a ≤ 3) (hb : b ≤ 3) (hg : gs.length ≤ 5) (h : GS (nms "i" a ++ nms "r" b) gs) (hr : regs.map (·.1) = nms "r" b) (pm : gs'.Perm gs) : Sound ⟨nms "i" a, gs', regs, outs⟩ := by
  have ln : ∀ s n, (nms s n).length = n := fun s n => by unfold nms; rw [List.length_map, List.length_range]
  have hrl : regs.length = b := by rw [← List.length_map (f := (·.1)) (as := regs), hr, ln]
  have hs : srcs ⟨nms "i" a, gs', regs, outs⟩ = nms "i" a ++ nms "r" b := by
    unfold srcs
    rw [hr]
  have mm : ∀ n, n ∈ gs'.map (·.name) ↔ n ∈ gs.map (·.name) := fun n => (pm.map _).mem_iff
  refine ⟨?_, ?_, ?_, fun g hg' => ?_, ?_⟩
  · show (nms "i" a).length + regs.length < 1000
    rw [ln, hrl]
    omega
  · show gs'.length < 1000
    rw [pm.length_eq]
    omega
  · unfold nets
    rw [hs]
    refine ((pm.map (·.name)).append_left _).nodup_iff.mpr ?_
    rw [h.names]
    have li : ("i" : Str) ∈ letters := by decide +kernel
    have lr : ("r" : Str) ∈ letters := by decide +kernel
    have lg : ("g" : Str) ∈ letters := by decide +kernel
    rw [List.nodup_append, List.nodup_append]
    refine ⟨⟨nms_nodup li (by omega), nms_nodup lr (by omega), nms_apart li lr (by decide +kernel) (by omega) (by omega)⟩, nms_nodup lg (by omega), fun x hx y hy => ?_⟩
    rcases List.mem_append.mp hx with q | q
    · exact nms_apart li lg (by decide +kernel) (n := a) (m := gs.length) (by omega) (by omega) x q y hy
    · exact nms_apart lr lg (by decide +kernel) (n := b) (m := gs.length) (by omega) (by omega) x q y hy
  · have := h.pins g (pm.mem_iff.mp hg')
    exact ⟨this.1, by omega⟩
  · obtain ⟨r, h1, _⟩ := h.rank
    refine ⟨r, fun g hg' n hn => ?_⟩
    rw [hs, mm]
    exact h1 g (pm.mem_iff.mp hg') n hn
theorem nm_new {a b k : Nat} (ha : a ≤ 3) (hb : b ≤ 3) (hk : k < 5) {gs : List Gate} (h : GS (nms "i" a ++ nms "r" b) gs) (hl : gs.length = k) : nm "g" k ∉ (nms "i" a ++ nms "r" b) ++ gs.map (·.name) := by
  have li : ("i" : Str) ∈ letters := by decide +kernel
  have lr : ("r" : Str) ∈ letters := by decide +kernel
  have lg : ("g" : Str) ∈ letters := by decide +kernel
  have self : nm "g" k ∈ nms "g" (k + 1) := List.mem_map.mpr ⟨k, by simp, rfl⟩
  rw [h.names, hl]
  intro m
  rcases List.mem_append.mp m with q | q
  · rcases List.mem_append.mp q with q | q
    · exact nms_apart li lg (by decide +kernel) (n := a) (m := k + 1) (by omega) (by omega) _ q _ self rfl
    · exact nms_apart lr lg (by decide +kernel) (n := b) (m := k + 1) (by omega) (by omega) _ q _ self rfl
  · obtain ⟨j, hj, e⟩ := List.mem_map.mp q
    rw [List.mem_range] at hj
    have := (nm_inj "g" lg "g" lg j (by omega) k (by omega) e).2
    omega
theorem nm_ok : ∀ s ∈ letters, ∀ i, i < 6 → PyData.strOk (nm s i) = true := by decide +kernel
theorem GS.strs {a b : Nat} {gs gs' : List Gate} {regs : List (Str × List PyData)} {outs : PyData} (ha : a ≤ 3) (hb : b ≤ 3) (hg : gs.length ≤ 5) (h : GS (nms "i" a ++ nms "r" b) gs) (hr : regs.map (·.1) = nms "r" b) (pm : gs'.Perm gs) : ∀ n ∈ nets ⟨nms "i" a, gs', regs, outs⟩, PyData.strOk n = true := fun n hn => by
  have li : ("i" : Str) ∈ letters := by decide +kernel
  have lr : ("r" : Str) ∈ letters := by decide +kernel
  have lg : ("g" : Str) ∈ letters := by decide +kernel
  have key : ∀ s ∈ letters, ∀ k, k ≤ 6 → n ∈ nms s k → PyData.strOk n = true := fun s hs k hk hm => by
    obtain ⟨i, hi, rfl⟩ := List.mem_map.mp hm
    rw [List.mem_range] at hi
    exact nm_ok s hs i (by omega)
  unfold nets srcs at hn
  rcases List.mem_append.mp hn with q | q
  · rcases List.mem_append.mp q with q | q
    · exact key _ li a (by omega) q
    · exact key _ lr b (by omega) (by rw [← hr]; exact q)
  · have q : n ∈ gs.map (·.name) := (pm.map _).mem_iff.mp q
    rw [h.names] at q
    exact key _ lg _ (by omega) q
end Sg
namespace Sg
open PySem PySem.Spec PyProof.Rows L2
section
variable {P : Program} {w : World} {K : PySem.W.Frag} {mg : Str → Option Value} {base : Heap}
abbrev s_w_shuffled : Stmt := top 37
abbrev N_w_shuffled : List Str := ["_law_pool_here", "_law_rows", "_law_left", "_law_out", "_law_k"]
theorem sc_w_shuffled : FnScope N_w_shuffled ["_law_pool_here", "_law_rows"] (defScope s_w_shuffled) := ⟨rfl, rfl, rfl, by decide +kernel, rfl, by decide +kernel, by decide +kernel⟩
def b1_w_shuffled (K : PySem.W.Frag) (sp_w_draw : Sp) : TS :=
    (tDrop (tBM K "list" rAppend (tVar 3) (tCons (tBM K "list" rPopAt (tVar 2) (tCons (tCall sp_w_draw [] E0 (tCons (tVar 0) (tCons (tCB (rLenQ K) (tCons (tVar 2) tNil)) tNil))) tNil)) tNil)))
def rd_w_shuffled (K : PySem.W.Frag) (sp_w_draw : Sp) : TS :=
    (tSeq (tAsg (tCB (rListQ K) (tCons (tVar 1) tNil)) (gName 2))
    (tSeq (tAsg (tLst tNil) (gName 3))
    (tSeq (tFor (iRng1 (tCons (tCB (rLenQ K) (tCons (tVar 1) tNil)) tNil)) (gName 4) (b1_w_shuffled K sp_w_draw))
    (tRet (tVar 3)))))
theorem dv_w_shuffled {sp_w_draw : Sp} (T : Bl mg) (c_w_draw : Cal P w K mg base 2 "_law_draw" sp_w_draw) {f : Addr} {cdv : Value} {A : Around} {outer : List Env} {s : Shared} {H : Hp} {E : XK} (hr : Room 2 (A.deeper (envOfC "_law_shuffled" (defScope s_w_shuffled) s.heap.objs.size f cdv))) :
    PSs (cxOf CX0 P w K mg base N_w_shuffled "_law_shuffled" (defScope s_w_shuffled) f cdv A outer s H E).nox (defBody s_w_shuffled) (rd_w_shuffled K sp_w_draw) :=
  (pss_cons (ps_set (i := 2) sc_w_shuffled.nd rfl (by first | exact Or.inl rfl | exact Or.inr rfl) (pe_callTy cr_list (by rfl) T.list (by decide +kernel) (pa_cons (pv 1) pa_nil)))
    (pss_cons (ps_set (i := 3) sc_w_shuffled.nd rfl (by first | exact Or.inl rfl | exact Or.inr rfl) (pe_lst pa_nil))
    (pss_cons (ps_for PassesOwn.never rfl (pi_range1 (by rfl) T.range (pa_cons (pe_callB cr_len (by rfl) T.len (by decide +kernel) (pa_cons (pv 1) pa_nil)) pa_nil)) (pg_name (i := 4) sc_w_shuffled.nd rfl (by first | exact Or.inl rfl | exact Or.inr rfl)) (pss_one (ps_expr (pe_bm PySem.F.plainAttrs_list PySem.F.slot_list_append PySem.F.type_list_append mt_append (pv 3) (pa_cons (pe_bm PySem.F.plainAttrs_list PySem.F.slot_list_pop PySem.F.type_list_pop mt_popAt (pv 2) (pa_cons (pe_cl c_w_draw hr (by decide) (by rfl) (pa_cons (pv 0) (pa_cons (pe_callB cr_len (by rfl) T.len (by decide +kernel) (pa_cons (pv 2) pa_nil)) pa_nil))) pa_nil)) pa_nil)))))
    (pss_one (ps_ret (pv 3))))))
abbrev s_w_circuit : Stmt := top 38
abbrev N_w_circuit : List Str := ["_law_pool_here", "_law_most", "_law_inputs", "_law_stored", "_law_nets", "_law_gates", "_law_k", "_law_regs", "_law_outputs", "_law_pins", "_law_ranges", "_law_pin", "_law_low", "_law_name", "_law_j"]
theorem sc_w_circuit : FnScope N_w_circuit ["_law_pool_here", "_law_most"] (defScope s_w_circuit) := ⟨rfl, rfl, rfl, by decide +kernel, rfl, by decide +kernel, by decide +kernel⟩
def b1_w_circuit (K : PySem.W.Frag) (sp_w_draw : Sp) (sp_w_register : Sp) (sp_w_shuffled : Sp) (sp_w_table : Sp) : TS :=
    (tSeq (tAsg (tCall sp_w_draw [] E0 (tCons (tVar 0) (tCons (tC (.int 5)) tNil))) (gName 12))
    (tDrop (tBM K "list" rAppend (tVar 10) (tCons (tTup (tCons (tVar 12) (tCons (tOp (rI0 fun i j => .int (i + j)) (tOp (rI0 fun i j => .int (i + j)) (tVar 12) (tC (.int 2))) (tCall sp_w_draw [] E0 (tCons (tVar 0) (tCons (tC (.int 5)) tNil)))) tNil))) tNil))))
def b2_w_circuit (K : PySem.W.Frag) (sp_w_draw : Sp) (sp_w_register : Sp) (sp_w_shuffled : Sp) (sp_w_table : Sp) : TS :=
    (tSeq (tAsg (tCB (rTupQ K) (tCons (tLc (iRng1 (tCons (tOp (rIxL K) (tLst (tCons (tC (.int 1)) (tCons (tC (.int 2)) (tCons (tC (.int 2)) (tCons (tC (.int 3)) (tCons (tC (.int 0)) (tCons (tC (.int 1)) tNil))))))) (tCall sp_w_draw [] E0 (tCons (tVar 0) (tCons (tC (.int 6)) tNil)))) tNil)) (gName 14) tYes (tOp (rIxL K) (tVar 4) (tCall sp_w_draw [] E0 (tCons (tVar 0) (tCons (tCB (rLenQ K) (tCons (tVar 4) tNil)) tNil)))) [14]) tNil)) (gName 9))
    (tSeq (tAsg (tLst tNil) (gName 10))
    (tSeq (tFor (iTup K (tVar 9)) (gName 11) (b1_w_circuit K sp_w_draw sp_w_register sp_w_shuffled sp_w_table))
    (tSeq (tDrop (tBM K "list" rAppend (tVar 5) (tCons (tTup (tCons (tOp rAddS (tC (.str "g")) (tCB rStrQ (tCons (tVar 6) tNil))) (tCons (tCall sp_w_table [] E0 (tCons (tVar 0) (tCons (tCB (rLenQ K) (tCons (tVar 9) tNil)) tNil))) (tCons (tVar 9) (tCons (tCB (rTupQ K) (tCons (tVar 10) tNil)) tNil))))) tNil)))
    (tDrop (tBM K "list" rAppend (tVar 4) (tCons (tOp rAddS (tC (.str "g")) (tCB rStrQ (tCons (tVar 6) tNil))) tNil)))))))
def rd_w_circuit (K : PySem.W.Frag) (sp_w_draw : Sp) (sp_w_register : Sp) (sp_w_shuffled : Sp) (sp_w_table : Sp) : TS :=
    (tSeq (tAsg (tLc (iRng1 (tCons (tOp (rI0 fun i j => .int (i + j)) (tC (.int 1)) (tCall sp_w_draw [] E0 (tCons (tVar 0) (tCons (tC (.int 3)) tNil)))) tNil)) (gName 6) tYes (tOp rAddS (tC (.str "i")) (tCB rStrQ (tCons (tVar 6) tNil))) [6]) (gName 2))
    (tSeq (tAsg (tLc (iRng1 (tCons (tCall sp_w_draw [] E0 (tCons (tVar 0) (tCons (tC (.int 4)) tNil))) tNil)) (gName 6) tYes (tOp rAddS (tC (.str "r")) (tCB rStrQ (tCons (tVar 6) tNil))) [6]) (gName 3))
    (tSeq (tAsg (tOp rCat (tVar 2) (tVar 3)) (gName 4))
    (tSeq (tAsg (tLst tNil) (gName 5))
    (tSeq (tFor (iRng1 (tCons (tCall sp_w_draw [] E0 (tCons (tVar 0) (tCons (tOp (rI0 fun i j => .int (i + j)) (tVar 1) (tC (.int 1))) tNil))) tNil)) (gName 6) (b2_w_circuit K sp_w_draw sp_w_register sp_w_shuffled sp_w_table))
    (tSeq (tAsg (tLc (iList K (tVar 3)) (gName 13) tYes (tCall sp_w_register [] E0 (tCons (tVar 0) (tCons (tVar 13) (tCons (tOp (rIxL K) (tVar 4) (tCall sp_w_draw [] E0 (tCons (tVar 0) (tCons (tCB (rLenQ K) (tCons (tVar 4) tNil)) tNil)))) tNil)))) [13]) (gName 7))
    (tSeq (tAsg (tLc (iRng1 (tCons (tCall sp_w_draw [] E0 (tCons (tVar 0) (tCons (tC (.int 4)) tNil))) tNil)) (gName 6) tYes (tTup (tCons (tOp rAddS (tC (.str "p")) (tCB rStrQ (tCons (tVar 6) tNil))) (tCons (tOp (rIxL K) (tVar 4) (tCall sp_w_draw [] E0 (tCons (tVar 0) (tCons (tCB (rLenQ K) (tCons (tVar 4) tNil)) tNil)))) tNil))) [6]) (gName 8))
    (tRet (tTup (tCons (tCB (rTupQ K) (tCons (tVar 2) tNil)) (tCons (tCB (rTupQ K) (tCons (tCall sp_w_shuffled [] E0 (tCons (tVar 0) (tCons (tVar 5) tNil))) tNil)) (tCons (tCB (rTupQ K) (tCons (tVar 7) tNil)) (tCons (tCB (rTupQ K) (tCons (tVar 8) tNil)) tNil)))))))))))))
theorem dv_w_circuit {sp_w_draw : Sp} {sp_w_register : Sp} {sp_w_shuffled : Sp} {sp_w_table : Sp} (T : Bl mg) (c_w_draw : Cal P w K mg base 2 "_law_draw" sp_w_draw) (c_w_register : Cal P w K mg base 3 "_law_register" sp_w_register) (c_w_shuffled : Cal P w K mg base 3 "_law_shuffled" sp_w_shuffled) (c_w_table : Cal P w K mg base 3 "_law_table" sp_w_table) {f : Addr} {cdv : Value} {A : Around} {outer : List Env} {s : Shared} {H : Hp} {E : XK} (hr : Room 3 (A.deeper (envOfC "_law_circuit" (defScope s_w_circuit) s.heap.objs.size f cdv))) :
    PSs (cxOf CX0 P w K mg base N_w_circuit "_law_circuit" (defScope s_w_circuit) f cdv A outer s H E).nox (defBody s_w_circuit) (rd_w_circuit K sp_w_draw sp_w_register sp_w_shuffled sp_w_table) :=
  (pss_cons (ps_setLc (i := 2) (own := [("_law_k", 6)]) rfl sc_w_circuit.nd rfl rfl (sw_true rfl rfl rfl (by decide +kernel)) (pi_range1 (by rfl) T.range (pa_cons (pe_op op_add pe_int (pe_cl c_w_draw hr (by decide) (by rfl) (pa_cons (pv 0) (pa_cons pe_int pa_nil)))) pa_nil)) (blkOk_by (own := [("_law_k", 6)]) (N := N_w_circuit) (sc := (defScope s_w_circuit)) (by decide +kernel)) (fun _ _ _ _ _ => (pg_name (i := 6) sc_w_circuit.nd rfl (by first | exact Or.inl rfl | exact Or.inr rfl))) (fun _ _ _ _ _ => pts_nil) (fun _ _ _ _ _ => (pe_op op_addS pe_str (pe_callTy cr_str (by rfl) T.str (by decide +kernel) (pa_cons (pv 6) pa_nil)))))
    (pss_cons (ps_setLc (i := 3) (own := [("_law_k", 6)]) rfl sc_w_circuit.nd rfl rfl (sw_true rfl rfl rfl (by decide +kernel)) (pi_range1 (by rfl) T.range (pa_cons (pe_cl c_w_draw hr (by decide) (by rfl) (pa_cons (pv 0) (pa_cons pe_int pa_nil))) pa_nil)) (blkOk_by (own := [("_law_k", 6)]) (N := N_w_circuit) (sc := (defScope s_w_circuit)) (by decide +kernel)) (fun _ _ _ _ _ => (pg_name (i := 6) sc_w_circuit.nd rfl (by first | exact Or.inl rfl | exact Or.inr rfl))) (fun _ _ _ _ _ => pts_nil) (fun _ _ _ _ _ => (pe_op op_addS pe_str (pe_callTy cr_str (by rfl) T.str (by decide +kernel) (pa_cons (pv 6) pa_nil)))))
    (pss_cons (ps_set (i := 4) sc_w_circuit.nd rfl (by first | exact Or.inl rfl | exact Or.inr rfl) (pe_op op_cat (pv 2) (pv 3)))
    (pss_cons (ps_set (i := 5) sc_w_circuit.nd rfl (by first | exact Or.inl rfl | exact Or.inr rfl) (pe_lst pa_nil))
    (pss_cons (ps_for PassesOwn.never rfl (pi_range1 (by rfl) T.range (pa_cons (pe_cl c_w_draw hr (by decide) (by rfl) (pa_cons (pv 0) (pa_cons (pe_op op_add (pv 1) pe_int) pa_nil))) pa_nil)) (pg_name (i := 6) sc_w_circuit.nd rfl (by first | exact Or.inl rfl | exact Or.inr rfl)) (pss_cons (ps_set (i := 9) sc_w_circuit.nd rfl (by first | exact Or.inl rfl | exact Or.inr rfl) (pe_callTy cr_tuple (by rfl) T.tuple (by decide +kernel) (pa_cons (pe_lc (own := [("_law_j", 14)]) rfl sc_w_circuit.nd (pi_range1 (by rfl) T.range (pa_cons (pe_ix ix_list (pe_lst (pa_cons pe_int (pa_cons pe_int (pa_cons pe_int (pa_cons pe_int (pa_cons pe_int (pa_cons pe_int pa_nil))))))) (pe_cl c_w_draw hr (by decide) (by rfl) (pa_cons (pv 0) (pa_cons pe_int pa_nil))) (fun _ _ => rfl)) pa_nil)) (blkOk_by (own := [("_law_j", 14)]) (N := N_w_circuit) (sc := (defScope s_w_circuit)) (by decide +kernel)) (fun _ _ _ _ _ => (pg_name (i := 14) sc_w_circuit.nd rfl (by first | exact Or.inl rfl | exact Or.inr rfl))) (fun _ _ _ _ _ => pts_nil) (fun _ _ _ _ _ => (pe_ix ix_list (pv 4) (pe_cl c_w_draw hr (by decide) (by rfl) (pa_cons (pv 0) (pa_cons (pe_callB cr_len (by rfl) T.len (by decide +kernel) (pa_cons (pv 4) pa_nil)) pa_nil))) (fun _ _ => rfl)))) pa_nil)))
    (pss_cons (ps_set (i := 10) sc_w_circuit.nd rfl (by first | exact Or.inl rfl | exact Or.inr rfl) (pe_lst pa_nil))
    (pss_cons (ps_for PassesOwn.never rfl (pi_tup (pv 9)) (pg_name (i := 11) sc_w_circuit.nd rfl (by first | exact Or.inl rfl | exact Or.inr rfl)) (pss_cons (ps_set (i := 12) sc_w_circuit.nd rfl (by first | exact Or.inl rfl | exact Or.inr rfl) (pe_cl c_w_draw hr (by decide) (by rfl) (pa_cons (pv 0) (pa_cons pe_int pa_nil))))
    (pss_one (ps_expr (pe_bm PySem.F.plainAttrs_list PySem.F.slot_list_append PySem.F.type_list_append mt_append (pv 10) (pa_cons (pe_tup (pa_cons (pv 12) (pa_cons (pe_op op_add (pe_op op_add (pv 12) pe_int) (pe_cl c_w_draw hr (by decide) (by rfl) (pa_cons (pv 0) (pa_cons pe_int pa_nil)))) pa_nil))) pa_nil))))))
    (pss_cons (ps_expr (pe_bm PySem.F.plainAttrs_list PySem.F.slot_list_append PySem.F.type_list_append mt_append (pv 5) (pa_cons (pe_tup (pa_cons (pe_op op_addS pe_str (pe_callTy cr_str (by rfl) T.str (by decide +kernel) (pa_cons (pv 6) pa_nil))) (pa_cons (pe_cl c_w_table hr (by decide) (by rfl) (pa_cons (pv 0) (pa_cons (pe_callB cr_len (by rfl) T.len (by decide +kernel) (pa_cons (pv 9) pa_nil)) pa_nil))) (pa_cons (pv 9) (pa_cons (pe_callTy cr_tuple (by rfl) T.tuple (by decide +kernel) (pa_cons (pv 10) pa_nil)) pa_nil))))) pa_nil)))
    (pss_one (ps_expr (pe_bm PySem.F.plainAttrs_list PySem.F.slot_list_append PySem.F.type_list_append mt_append (pv 4) (pa_cons (pe_op op_addS pe_str (pe_callTy cr_str (by rfl) T.str (by decide +kernel) (pa_cons (pv 6) pa_nil))) pa_nil)))))))))
    (pss_cons (ps_setLc (i := 7) (own := [("_law_name", 13)]) rfl sc_w_circuit.nd rfl rfl (sw_true rfl rfl rfl (by decide +kernel)) (pi_list (pv 3)) (blkOk_by (own := [("_law_name", 13)]) (N := N_w_circuit) (sc := (defScope s_w_circuit)) (by decide +kernel)) (fun _ _ _ _ _ => (pg_name (i := 13) sc_w_circuit.nd rfl (by first | exact Or.inl rfl | exact Or.inr rfl))) (fun _ _ _ _ _ => pts_nil) (fun _ _ _ _ _ => (pe_cl c_w_register hr (by decide) (by rfl) (pa_cons (pv 0) (pa_cons (pv 13) (pa_cons (pe_ix ix_list (pv 4) (pe_cl c_w_draw hr (by decide) (by rfl) (pa_cons (pv 0) (pa_cons (pe_callB cr_len (by rfl) T.len (by decide +kernel) (pa_cons (pv 4) pa_nil)) pa_nil))) (fun _ _ => rfl)) pa_nil))))))
    (pss_cons (ps_setLc (i := 8) (own := [("_law_k", 6)]) rfl sc_w_circuit.nd rfl rfl (sw_true rfl rfl rfl (by decide +kernel)) (pi_range1 (by rfl) T.range (pa_cons (pe_cl c_w_draw hr (by decide) (by rfl) (pa_cons (pv 0) (pa_cons pe_int pa_nil))) pa_nil)) (blkOk_by (own := [("_law_k", 6)]) (N := N_w_circuit) (sc := (defScope s_w_circuit)) (by decide +kernel)) (fun _ _ _ _ _ => (pg_name (i := 6) sc_w_circuit.nd rfl (by first | exact Or.inl rfl | exact Or.inr rfl))) (fun _ _ _ _ _ => pts_nil) (fun _ _ _ _ _ => (pe_tup (pa_cons (pe_op op_addS pe_str (pe_callTy cr_str (by rfl) T.str (by decide +kernel) (pa_cons (pv 6) pa_nil))) (pa_cons (pe_ix ix_list (pv 4) (pe_cl c_w_draw hr (by decide) (by rfl) (pa_cons (pv 0) (pa_cons (pe_callB cr_len (by rfl) T.len (by decide +kernel) (pa_cons (pv 4) pa_nil)) pa_nil))) (fun _ _ => rfl)) pa_nil)))))
    (pss_one (ps_ret (pe_tup (pa_cons (pe_callTy cr_tuple (by rfl) T.tuple (by decide +kernel) (pa_cons (pv 2) pa_nil)) (pa_cons (pe_callTy cr_tuple (by rfl) T.tuple (by decide +kernel) (pa_cons (pe_cl c_w_shuffled hr (by decide) (by rfl) (pa_cons (pv 0) (pa_cons (pv 5) pa_nil))) pa_nil)) (pa_cons (pe_callTy cr_tuple (by rfl) T.tuple (by decide +kernel) (pa_cons (pv 7) pa_nil)) (pa_cons (pe_callTy cr_tuple (by rfl) T.tuple (by decide +kernel) (pa_cons (pv 8) pa_nil)) pa_nil))))))))))))))
abbrev s_w_order : Stmt := top 39
abbrev N_w_order : List Str := ["_law_circuit_here", "_law_names", "_law_done", "_law_turn", "_law_k", "_law_gate", "_law_waiting", "_law_net"]
theorem sc_w_order : FnScope N_w_order ["_law_circuit_here"] (defScope s_w_order) := ⟨rfl, rfl, rfl, by decide +kernel, rfl, by decide +kernel, by decide +kernel⟩
def b1_w_order (K : PySem.W.Frag) : TS :=
    (tSeq (tAsg (tLc (iTup K (tOp (rIxT K) (tOp (rIxT K) (tOp (rIxT K) (tVar 0) (tC (.int 1))) (tVar 4)) (tC (.int 2)))) (gName 7) (tAnd (tTest (tOp (rIn K false) (tVar 7) (tVar 1))) (tTest (tOp (rIn K true) (tBM K "list" (rIndex K) (tVar 1) (tCons (tVar 7) tNil)) (tVar 2)))) (tVar 7) [7]) (gName 6))
    (tIfS (tAnd (tTest (tOp (rIn K true) (tVar 4) (tVar 2))) (tTest (tOp (rEqD K) (tVar 6) (tLst tNil)))) (tSeq (tDrop (tBM K "list" rAppend (tVar 2) (tCons (tVar 4) tNil)))
    tBreak) tNext))
def b2_w_order (K : PySem.W.Frag) : TS :=
    (tFor (iRng1 (tCons (tCB (rLenQ K) (tCons (tVar 1) tNil)) tNil)) (gName 4) (b1_w_order K))
def rd_w_order (K : PySem.W.Frag) : TS :=
    (tSeq (tAsg (tLc (iTup K (tOp (rIxT K) (tVar 0) (tC (.int 1)))) (gName 5) tYes (tOp (rIxT K) (tVar 5) (tC (.int 0))) [5]) (gName 1))
    (tSeq (tAsg (tLst tNil) (gName 2))
    (tSeq (tFor (iRng1 (tCons (tCB (rLenQ K) (tCons (tVar 1) tNil)) tNil)) (gName 3) (b2_w_order K))
    (tRet (tVar 2)))))
theorem dv_w_order  (T : Bl mg)  {f : Addr} {cdv : Value} {A : Around} {outer : List Env} {s : Shared} {H : Hp} {E : XK} (hr : Room 0 (A.deeper (envOfC "_law_order" (defScope s_w_order) s.heap.objs.size f cdv))) :
    PSs (cxOf CX0 P w K mg base N_w_order "_law_order" (defScope s_w_order) f cdv A outer s H E).nox (defBody s_w_order) (rd_w_order K) :=
  (pss_cons (ps_set (i := 1) sc_w_order.nd rfl (by first | exact Or.inl rfl | exact Or.inr rfl) (pe_lc (own := [("_law_gate", 5)]) rfl sc_w_order.nd (pi_tup (pe_ix ix_tup (pv 0) pe_int (fun _ _ => rfl))) (blkOk_by (own := [("_law_gate", 5)]) (N := N_w_order) (sc := (defScope s_w_order)) (by decide +kernel)) (fun _ _ _ _ _ => (pg_name (i := 5) sc_w_order.nd rfl (by first | exact Or.inl rfl | exact Or.inr rfl))) (fun _ _ _ _ _ => pts_nil) (fun _ _ _ _ _ => (pe_ix ix_tup (pv 5) pe_int (fun _ _ => rfl)))))
    (pss_cons (ps_set (i := 2) sc_w_order.nd rfl (by first | exact Or.inl rfl | exact Or.inr rfl) (pe_lst pa_nil))
    (pss_cons (ps_for PassesOwn.never rfl (pi_range1 (by rfl) T.range (pa_cons (pe_callB cr_len (by rfl) T.len (by decide +kernel) (pa_cons (pv 1) pa_nil)) pa_nil)) (pg_name (i := 3) sc_w_order.nd rfl (by first | exact Or.inl rfl | exact Or.inr rfl)) (pss_one (ps_for PassesOwn.never rfl (pi_range1 (by rfl) T.range (pa_cons (pe_callB cr_len (by rfl) T.len (by decide +kernel) (pa_cons (pv 1) pa_nil)) pa_nil)) (pg_name (i := 4) sc_w_order.nd rfl (by first | exact Or.inl rfl | exact Or.inr rfl)) (pss_cons (ps_setLc (i := 6) (own := [("_law_net", 7)]) rfl sc_w_order.nd rfl rfl (sw_true rfl rfl rfl (by decide +kernel)) (pi_tup (pe_ix ix_tup (pe_ix ix_tup (pe_ix ix_tup (pv 0) pe_int (fun _ _ => rfl)) (pv 4) (fun _ _ => rfl)) pe_int (fun _ _ => rfl))) (blkOk_by (own := [("_law_net", 7)]) (N := N_w_order) (sc := (defScope s_w_order)) (by decide +kernel)) (fun _ _ _ _ _ => (pg_name (i := 7) sc_w_order.nd rfl (by first | exact Or.inl rfl | exact Or.inr rfl))) (fun _ _ _ _ _ => (pts_one (PW.pt (pw_and (pt_cmpR op_in_seq (pv 7) (pv 1) rfl) (pw_and1 (pt_cmpR op_notIn_seq (pe_bm PySem.F.plainAttrs_list PySem.F.slot_list_index PySem.F.type_list_index mt_index (pv 1) (pa_cons (pv 7) pa_nil)) (pv 2) rfl)))))) (fun _ _ _ _ _ => (pv 7)))
    (pss_one (ps_if (PW.pt (pw_and (pt_cmpR op_notIn_seq (pv 4) (pv 2) rfl) (pw_and1 (pt_cmpR (op_eqD hr.units) (pv 6) (pe_lst pa_nil) (nomark _))))) (pss_cons (ps_expr (pe_bm PySem.F.plainAttrs_list PySem.F.slot_list_append PySem.F.type_list_append mt_append (pv 2) (pa_cons (pv 4) pa_nil)))
    (pss_one ps_break)) pss_nil))))))
    (pss_one (ps_ret (pv 2))))))
abbrev s_w_late : Stmt := top 42
abbrev N_w_late : List Str := ["_law_circuit_here", "_law_starts_here", "_law_choice", "_law_sizes_here", "_law_late_here", "_law_sources", "_law_k", "_law_index", "_law_gate", "_law_sums", "_law_j", "_law_row"]
theorem sc_w_late : FnScope N_w_late ["_law_circuit_here", "_law_starts_here", "_law_choice", "_law_sizes_here"] (defScope s_w_late) := ⟨rfl, rfl, rfl, by decide +kernel, rfl, by decide +kernel, by decide +kernel⟩
def b1_w_late (K : PySem.W.Frag) (sp_w_order : Sp) : TS :=
    (sDPut (tVar 4) (tOp (rIxL K) (tVar 5) (tVar 6)) (tOp (rIxT K) (tOp (rIxL K) (tVar 1) (tVar 6)) (tC (.int 1))))
def b2_w_late (K : PySem.W.Frag) (sp_w_order : Sp) : TS :=
    (tIfS (tB (tNotN (tDGet (tVar 4) (tOp (rIxT K) (tOp (rIxT K) (tVar 8) (tC (.int 2))) (tVar 10))))) (tDrop (tBM K "list" rAppend (tVar 9) (tCons (tOp (rI0 fun i j => .int (i + j)) (tDGet (tVar 4) (tOp (rIxT K) (tOp (rIxT K) (tVar 8) (tC (.int 2))) (tVar 10))) (tOp (rIxT K) (tOp (rIxT K) (tOp (rIxT K) (tOp (rIxL K) (tOp (rIxL K) (tVar 3) (tVar 7)) (tOp (rIxL K) (tVar 2) (tVar 7))) (tC (.int 1))) (tVar 10)) (tC (.int 1)))) tNil))) tNext)
def b3_w_late (K : PySem.W.Frag) (sp_w_order : Sp) : TS :=
    (tSeq (tAsg (tOp (rIxT K) (tOp (rIxT K) (tVar 0) (tC (.int 1))) (tVar 7)) (gName 8))
    (tSeq (tAsg (tLst tNil) (gName 9))
    (tSeq (tFor (iRng1 (tCons (tCB (rLenQ K) (tCons (tOp (rIxT K) (tVar 8) (tC (.int 2))) tNil)) tNil)) (gName 10) (b2_w_late K sp_w_order))
    (tSeq (sDPut (tVar 4) (tOp (rIxT K) (tVar 8) (tC (.int 0))) (tC .non))
    (tIfS (tTest (tOp (rNeD K) (tVar 9) (tLst tNil))) (sDPut (tVar 4) (tOp (rIxT K) (tVar 8) (tC (.int 0))) (tCB (rMax K) (tCons (tVar 9) tNil))) tNext)))))
def rd_w_late (K : PySem.W.Frag) (sp_w_order : Sp) : TS :=
    (tSeq (tAsg tDNewK (gName 4))
    (tSeq (tAsg (tOp rCat (tCB (rListQ K) (tCons (tOp (rIxT K) (tVar 0) (tC (.int 0))) tNil)) (tLc (iTup K (tOp (rIxT K) (tVar 0) (tC (.int 2)))) (gName 11) tYes (tOp (rIxT K) (tVar 11) (tC (.int 0))) [11])) (gName 5))
    (tSeq (tFor (iRng1 (tCons (tCB (rLenQ K) (tCons (tVar 5) tNil)) tNil)) (gName 6) (b1_w_late K sp_w_order))
    (tSeq (tFor (iList K (tCall sp_w_order [] E0 (tCons (tVar 0) tNil))) (gName 7) (b3_w_late K sp_w_order))
    (tRet (tVar 4))))))
theorem dv_w_late {sp_w_order : Sp} (T : Bl mg) (c_w_order : Cal P w K mg base 1 "_law_order" sp_w_order) {f : Addr} {cdv : Value} {A : Around} {outer : List Env} {s : Shared} {H : Hp} {E : XK} (hr : Room 1 (A.deeper (envOfC "_law_late" (defScope s_w_late) s.heap.objs.size f cdv))) :
    PSs (cxOf CX0 P w K mg base N_w_late "_law_late" (defScope s_w_late) f cdv A outer s H E).nox (defBody s_w_late) (rd_w_late K sp_w_order) :=
  (pss_cons (ps_set (i := 4) sc_w_late.nd rfl (by first | exact Or.inl rfl | exact Or.inr rfl) pe_dnewK)
    (pss_cons (ps_set (i := 5) sc_w_late.nd rfl (by first | exact Or.inl rfl | exact Or.inr rfl) (pe_op op_cat (pe_callTy cr_list (by rfl) T.list (by decide +kernel) (pa_cons (pe_ix ix_tup (pv 0) pe_int (fun _ _ => rfl)) pa_nil)) (pe_lc (own := [("_law_row", 11)]) rfl sc_w_late.nd (pi_tup (pe_ix ix_tup (pv 0) pe_int (fun _ _ => rfl))) (blkOk_by (own := [("_law_row", 11)]) (N := N_w_late) (sc := (defScope s_w_late)) (by decide +kernel)) (fun _ _ _ _ _ => (pg_name (i := 11) sc_w_late.nd rfl (by first | exact Or.inl rfl | exact Or.inr rfl))) (fun _ _ _ _ _ => pts_nil) (fun _ _ _ _ _ => (pe_ix ix_tup (pv 11) pe_int (fun _ _ => rfl))))))
    (pss_cons (ps_for PassesOwn.never rfl (pi_range1 (by rfl) T.range (pa_cons (pe_callB cr_len (by rfl) T.len (by decide +kernel) (pa_cons (pv 5) pa_nil)) pa_nil)) (pg_name (i := 6) sc_w_late.nd rfl (by first | exact Or.inl rfl | exact Or.inr rfl)) (pss_one (ps_dput (hu_of hr) (pv 4) (pe_ix ix_list (pv 5) (pv 6) (fun _ _ => rfl)) (pe_ix ix_tup (pe_ix ix_list (pv 1) (pv 6) (fun _ _ => rfl)) pe_int (fun _ _ => rfl)) rfl)))
    (pss_cons (ps_for PassesOwn.never rfl (pi_list (pe_cl c_w_order hr (by decide) (by rfl) (pa_cons (pv 0) pa_nil))) (pg_name (i := 7) sc_w_late.nd rfl (by first | exact Or.inl rfl | exact Or.inr rfl)) (pss_cons (ps_set (i := 8) sc_w_late.nd rfl (by first | exact Or.inl rfl | exact Or.inr rfl) (pe_ix ix_tup (pe_ix ix_tup (pv 0) pe_int (fun _ _ => rfl)) (pv 7) (fun _ _ => rfl)))
    (pss_cons (ps_set (i := 9) sc_w_late.nd rfl (by first | exact Or.inl rfl | exact Or.inr rfl) (pe_lst pa_nil))
    (pss_cons (ps_for PassesOwn.never rfl (pi_range1 (by rfl) T.range (pa_cons (pe_callB cr_len (by rfl) T.len (by decide +kernel) (pa_cons (pe_ix ix_tup (pv 8) pe_int (fun _ _ => rfl)) pa_nil)) pa_nil)) (pg_name (i := 10) sc_w_late.nd rfl (by first | exact Or.inl rfl | exact Or.inr rfl)) (pss_one (ps_if (pt_cmp (pc_notN (pe_dget (hu_of hr) (pv 4) (pe_ix ix_tup (pe_ix ix_tup (pv 8) pe_int (fun _ _ => rfl)) (pv 10) (fun _ _ => rfl)) (fun _ _ => rfl)))) (pss_one (ps_expr (pe_bm PySem.F.plainAttrs_list PySem.F.slot_list_append PySem.F.type_list_append mt_append (pv 9) (pa_cons (pe_op op_add (pe_dget (hu_of hr) (pv 4) (pe_ix ix_tup (pe_ix ix_tup (pv 8) pe_int (fun _ _ => rfl)) (pv 10) (fun _ _ => rfl)) (fun _ _ => rfl)) (pe_ix ix_tup (pe_ix ix_tup (pe_ix ix_tup (pe_ix ix_list (pe_ix ix_list (pv 3) (pv 7) (fun _ _ => rfl)) (pe_ix ix_list (pv 2) (pv 7) (fun _ _ => rfl)) (fun _ _ => rfl)) pe_int (fun _ _ => rfl)) (pv 10) (fun _ _ => rfl)) pe_int (fun _ _ => rfl))) pa_nil)))) pss_nil)))
    (pss_cons (ps_dput (hu_of hr) (pv 4) (pe_ix ix_tup (pv 8) pe_int (fun _ _ => rfl)) pe_non rfl)
    (pss_one (ps_if (pt_cmpR (op_neD hr.units) (pv 9) (pe_lst pa_nil) (nomark _)) (pss_one (ps_dput (hu_of hr) (pv 4) (pe_ix ix_tup (pv 8) pe_int (fun _ _ => rfl)) (pe_callB (cr_max rfl) (by rfl) T.max (by decide +kernel) (pa_cons (pv 9) pa_nil)) rfl)) pss_nil)))))))
    (pss_one (ps_ret (pv 4)))))))
abbrev s_w_meets : Stmt := top 43
abbrev N_w_meets : List Str := ["_law_late_here", "_law_limits", "_law_net"]
theorem sc_w_meets : FnScope N_w_meets ["_law_late_here", "_law_limits"] (defScope s_w_meets) := ⟨rfl, rfl, rfl, by decide +kernel, rfl, by decide +kernel, by decide +kernel⟩
def rd_w_meets (K : PySem.W.Frag) : TS :=
    (tRet (tOp (rEqD K) (tLockE (tLc (iKeys (tVar 1)) (gName 2) (tAnd (tB (tNotN (tDGet (tVar 0) (tVar 2)))) (tTest (tOp (rI0 fun i j => .bl (decide (j < i))) (tDGet (tVar 0) (tVar 2)) (tDGet (tVar 1) (tVar 2))))) (tVar 2) [2])) (tLst tNil)))
theorem dv_w_meets  (T : Bl mg)  {f : Addr} {cdv : Value} {A : Around} {outer : List Env} {s : Shared} {H : Hp} {E : XK} (hr : Room 0 (A.deeper (envOfC "_law_meets" (defScope s_w_meets) s.heap.objs.size f cdv))) :
    PSs (cxOf CX0 P w K mg base N_w_meets "_law_meets" (defScope s_w_meets) f cdv A outer s H E).nox (defBody s_w_meets) (rd_w_meets K) :=
  (pss_one (ps_ret (pe_cmpR (op_eqD hr.units) (pe_lock (pe_lc (own := [("_law_net", 2)]) rfl sc_w_meets.nd (pi_keys (pv 1)) (blkOk_by (own := [("_law_net", 2)]) (N := N_w_meets) (sc := (defScope s_w_meets)) (by decide +kernel)) (fun _ _ _ _ _ => (pg_name (i := 2) sc_w_meets.nd rfl (by first | exact Or.inl rfl | exact Or.inr rfl))) (fun _ _ _ _ _ => (pts_one (PW.pt (pw_and (pt_cmp (pc_notN (pe_dget (hu_of hr) (pv 0) (pv 2) (fun _ _ => rfl)))) (pw_and1 (pt_cmpR op_gt (pe_dget (hu_of hr) (pv 0) (pv 2) (fun _ _ => rfl)) (pe_dget (hu_of hr) (pv 1) (pv 2) (fun _ _ => rfl)) (nomark _))))))) (fun _ _ _ _ _ => (pv 2)))) (pe_lst pa_nil) (nomark _))))
abbrev s_w_starts : Stmt := top 44
abbrev N_w_starts : List Str := ["_law_pool_here", "_law_circuit_here", "_law_starts_here", "_law_k", "_law_early"]
theorem sc_w_starts : FnScope N_w_starts ["_law_pool_here", "_law_circuit_here"] (defScope s_w_starts) := ⟨rfl, rfl, rfl, by decide +kernel, rfl, by decide +kernel, by decide +kernel⟩
def b1_w_starts (K : PySem.W.Frag) (sp_w_draw : Sp) : TS :=
    (tSeq (tAsg (tOp (rI0 fun i j => .int (i - j)) (tCall sp_w_draw [] E0 (tCons (tVar 0) (tCons (tC (.int 9)) tNil))) (tC (.int 4))) (gName 4))
    (tDrop (tBM K "list" rAppend (tVar 2) (tCons (tTup (tCons (tVar 4) (tCons (tOp (rI0 fun i j => .int (i + j)) (tVar 4) (tCall sp_w_draw [] E0 (tCons (tVar 0) (tCons (tC (.int 4)) tNil)))) tNil))) tNil))))
def rd_w_starts (K : PySem.W.Frag) (sp_w_draw : Sp) : TS :=
    (tSeq (tAsg (tLst tNil) (gName 2))
    (tSeq (tFor (iRng1 (tCons (tOp (rI0 fun i j => .int (i + j)) (tCB (rLenQ K) (tCons (tOp (rIxT K) (tVar 1) (tC (.int 0))) tNil)) (tCB (rLenQ K) (tCons (tOp (rIxT K) (tVar 1) (tC (.int 2))) tNil))) tNil)) (gName 3) (b1_w_starts K sp_w_draw))
    (tRet (tVar 2))))
theorem dv_w_starts {sp_w_draw : Sp} (T : Bl mg) (c_w_draw : Cal P w K mg base 2 "_law_draw" sp_w_draw) {f : Addr} {cdv : Value} {A : Around} {outer : List Env} {s : Shared} {H : Hp} {E : XK} (hr : Room 2 (A.deeper (envOfC "_law_starts" (defScope s_w_starts) s.heap.objs.size f cdv))) :
    PSs (cxOf CX0 P w K mg base N_w_starts "_law_starts" (defScope s_w_starts) f cdv A outer s H E).nox (defBody s_w_starts) (rd_w_starts K sp_w_draw) :=
  (pss_cons (ps_set (i := 2) sc_w_starts.nd rfl (by first | exact Or.inl rfl | exact Or.inr rfl) (pe_lst pa_nil))
    (pss_cons (ps_for PassesOwn.never rfl (pi_range1 (by rfl) T.range (pa_cons (pe_op op_add (pe_callB cr_len (by rfl) T.len (by decide +kernel) (pa_cons (pe_ix ix_tup (pv 1) pe_int (fun _ _ => rfl)) pa_nil)) (pe_callB cr_len (by rfl) T.len (by decide +kernel) (pa_cons (pe_ix ix_tup (pv 1) pe_int (fun _ _ => rfl)) pa_nil))) pa_nil)) (pg_name (i := 3) sc_w_starts.nd rfl (by first | exact Or.inl rfl | exact Or.inr rfl)) (pss_cons (ps_set (i := 4) sc_w_starts.nd rfl (by first | exact Or.inl rfl | exact Or.inr rfl) (pe_op op_sub (pe_cl c_w_draw hr (by decide) (by rfl) (pa_cons (pv 0) (pa_cons pe_int pa_nil))) pe_int))
    (pss_one (ps_expr (pe_bm PySem.F.plainAttrs_list PySem.F.slot_list_append PySem.F.type_list_append mt_append (pv 2) (pa_cons (pe_tup (pa_cons (pv 4) (pa_cons (pe_op op_add (pv 4) (pe_cl c_w_draw hr (by decide) (by rfl) (pa_cons (pv 0) (pa_cons pe_int pa_nil)))) pa_nil))) pa_nil))))))
    (pss_one (ps_ret (pv 2)))))
abbrev s_w_sizes : Stmt := top 45
abbrev N_w_sizes : List Str := ["_law_pool_here", "_law_circuit_here", "_law_sizes_here", "_law_gate", "_law_rows", "_law_k", "_law_ranges", "_law_net", "_law_low"]
theorem sc_w_sizes : FnScope N_w_sizes ["_law_pool_here", "_law_circuit_here"] (defScope s_w_sizes) := ⟨rfl, rfl, rfl, by decide +kernel, rfl, by decide +kernel, by decide +kernel⟩
def b1_w_sizes (K : PySem.W.Frag) (sp_w_draw : Sp) : TS :=
    (tSeq (tAsg (tCall sp_w_draw [] E0 (tCons (tVar 0) (tCons (tC (.int 3)) tNil))) (gName 8))
    (tDrop (tBM K "list" rAppend (tVar 6) (tCons (tTup (tCons (tVar 8) (tCons (tOp (rI0 fun i j => .int (i + j)) (tOp (rI0 fun i j => .int (i + j)) (tVar 8) (tC (.int 2))) (tCall sp_w_draw [] E0 (tCons (tVar 0) (tCons (tC (.int 5)) tNil)))) tNil))) tNil))))
def b2_w_sizes (K : PySem.W.Frag) (sp_w_draw : Sp) : TS :=
    (tSeq (tAsg (tLst tNil) (gName 6))
    (tSeq (tFor (iTup K (tOp (rIxT K) (tVar 3) (tC (.int 2)))) (gName 7) (b1_w_sizes K sp_w_draw))
    (tDrop (tBM K "list" rAppend (tVar 4) (tCons (tTup (tCons (tCall sp_w_draw [] E0 (tCons (tVar 0) (tCons (tC (.int 4)) tNil))) (tCons (tCB (rTupQ K) (tCons (tVar 6) tNil)) tNil))) tNil)))))
def b3_w_sizes (K : PySem.W.Frag) (sp_w_draw : Sp) : TS :=
    (tSeq (tAsg (tLst tNil) (gName 4))
    (tSeq (tFor (iRng1 (tCons (tOp (rI0 fun i j => .int (i + j)) (tC (.int 1)) (tCall sp_w_draw [] E0 (tCons (tVar 0) (tCons (tC (.int 3)) tNil)))) tNil)) (gName 5) (b2_w_sizes K sp_w_draw))
    (tDrop (tBM K "list" rAppend (tVar 2) (tCons (tVar 4) tNil)))))
def rd_w_sizes (K : PySem.W.Frag) (sp_w_draw : Sp) : TS :=
    (tSeq (tAsg (tLst tNil) (gName 2))
    (tSeq (tFor (iTup K (tOp (rIxT K) (tVar 1) (tC (.int 1)))) (gName 3) (b3_w_sizes K sp_w_draw))
    (tRet (tVar 2))))
theorem dv_w_sizes {sp_w_draw : Sp} (T : Bl mg) (c_w_draw : Cal P w K mg base 2 "_law_draw" sp_w_draw) {f : Addr} {cdv : Value} {A : Around} {outer : List Env} {s : Shared} {H : Hp} {E : XK} (hr : Room 2 (A.deeper (envOfC "_law_sizes" (defScope s_w_sizes) s.heap.objs.size f cdv))) :
    PSs (cxOf CX0 P w K mg base N_w_sizes "_law_sizes" (defScope s_w_sizes) f cdv A outer s H E).nox (defBody s_w_sizes) (rd_w_sizes K sp_w_draw) :=
  (pss_cons (ps_set (i := 2) sc_w_sizes.nd rfl (by first | exact Or.inl rfl | exact Or.inr rfl) (pe_lst pa_nil))
    (pss_cons (ps_for PassesOwn.never rfl (pi_tup (pe_ix ix_tup (pv 1) pe_int (fun _ _ => rfl))) (pg_name (i := 3) sc_w_sizes.nd rfl (by first | exact Or.inl rfl | exact Or.inr rfl)) (pss_cons (ps_set (i := 4) sc_w_sizes.nd rfl (by first | exact Or.inl rfl | exact Or.inr rfl) (pe_lst pa_nil))
    (pss_cons (ps_for PassesOwn.never rfl (pi_range1 (by rfl) T.range (pa_cons (pe_op op_add pe_int (pe_cl c_w_draw hr (by decide) (by rfl) (pa_cons (pv 0) (pa_cons pe_int pa_nil)))) pa_nil)) (pg_name (i := 5) sc_w_sizes.nd rfl (by first | exact Or.inl rfl | exact Or.inr rfl)) (pss_cons (ps_set (i := 6) sc_w_sizes.nd rfl (by first | exact Or.inl rfl | exact Or.inr rfl) (pe_lst pa_nil))
    (pss_cons (ps_for PassesOwn.never rfl (pi_tup (pe_ix ix_tup (pv 3) pe_int (fun _ _ => rfl))) (pg_name (i := 7) sc_w_sizes.nd rfl (by first | exact Or.inl rfl | exact Or.inr rfl)) (pss_cons (ps_set (i := 8) sc_w_sizes.nd rfl (by first | exact Or.inl rfl | exact Or.inr rfl) (pe_cl c_w_draw hr (by decide) (by rfl) (pa_cons (pv 0) (pa_cons pe_int pa_nil))))
    (pss_one (ps_expr (pe_bm PySem.F.plainAttrs_list PySem.F.slot_list_append PySem.F.type_list_append mt_append (pv 6) (pa_cons (pe_tup (pa_cons (pv 8) (pa_cons (pe_op op_add (pe_op op_add (pv 8) pe_int) (pe_cl c_w_draw hr (by decide) (by rfl) (pa_cons (pv 0) (pa_cons pe_int pa_nil)))) pa_nil))) pa_nil))))))
    (pss_one (ps_expr (pe_bm PySem.F.plainAttrs_list PySem.F.slot_list_append PySem.F.type_list_append mt_append (pv 4) (pa_cons (pe_tup (pa_cons (pe_cl c_w_draw hr (by decide) (by rfl) (pa_cons (pv 0) (pa_cons pe_int pa_nil))) (pa_cons (pe_callTy cr_tuple (by rfl) T.tuple (by decide +kernel) (pa_cons (pv 6) pa_nil)) pa_nil))) pa_nil)))))))
    (pss_one (ps_expr (pe_bm PySem.F.plainAttrs_list PySem.F.slot_list_append PySem.F.type_list_append mt_append (pv 2) (pa_cons (pv 4) pa_nil)))))))
    (pss_one (ps_ret (pv 2)))))
abbrev s_w_choices : Stmt := top 46
abbrev N_w_choices : List Str := ["_law_sizes_here", "_law_choices_here", "_law_rows", "_law_longer", "_law_choice", "_law_k"]
theorem sc_w_choices : FnScope N_w_choices ["_law_sizes_here"] (defScope s_w_choices) := ⟨rfl, rfl, rfl, by decide +kernel, rfl, by decide +kernel, by decide +kernel⟩
def b1_w_choices (K : PySem.W.Frag) : TS :=
    (tDrop (tBM K "list" rAppend (tVar 3) (tCons (tOp rCat (tVar 4) (tLst (tCons (tVar 5) tNil))) tNil)))
def b2_w_choices (K : PySem.W.Frag) : TS :=
    (tFor (iRng1 (tCons (tCB (rLenQ K) (tCons (tVar 2) tNil)) tNil)) (gName 5) (b1_w_choices K))
def b3_w_choices (K : PySem.W.Frag) : TS :=
    (tSeq (tAsg (tLst tNil) (gName 3))
    (tSeq (tFor (iList K (tVar 1)) (gName 4) (b2_w_choices K))
    (tAsg (tVar 3) (gName 1))))
def rd_w_choices (K : PySem.W.Frag) : TS :=
    (tSeq (tAsg (tLst (tCons (tLst tNil) tNil)) (gName 1))
    (tSeq (tFor (iList K (tVar 0)) (gName 2) (b3_w_choices K))
    (tRet (tVar 1))))
theorem dv_w_choices  (T : Bl mg)  {f : Addr} {cdv : Value} {A : Around} {outer : List Env} {s : Shared} {H : Hp} {E : XK} (hr : Room 0 (A.deeper (envOfC "_law_choices" (defScope s_w_choices) s.heap.objs.size f cdv))) :
    PSs (cxOf CX0 P w K mg base N_w_choices "_law_choices" (defScope s_w_choices) f cdv A outer s H E).nox (defBody s_w_choices) (rd_w_choices K) :=
  (pss_cons (ps_set (i := 1) sc_w_choices.nd rfl (by first | exact Or.inl rfl | exact Or.inr rfl) (pe_lst (pa_cons (pe_lst pa_nil) pa_nil)))
    (pss_cons (ps_for PassesOwn.never rfl (pi_list (pv 0)) (pg_name (i := 2) sc_w_choices.nd rfl (by first | exact Or.inl rfl | exact Or.inr rfl)) (pss_cons (ps_set (i := 3) sc_w_choices.nd rfl (by first | exact Or.inl rfl | exact Or.inr rfl) (pe_lst pa_nil))
    (pss_cons (ps_for PassesOwn.never rfl (pi_list (pv 1)) (pg_name (i := 4) sc_w_choices.nd rfl (by first | exact Or.inl rfl | exact Or.inr rfl)) (pss_one (ps_for PassesOwn.never rfl (pi_range1 (by rfl) T.range (pa_cons (pe_callB cr_len (by rfl) T.len (by decide +kernel) (pa_cons (pv 2) pa_nil)) pa_nil)) (pg_name (i := 5) sc_w_choices.nd rfl (by first | exact Or.inl rfl | exact Or.inr rfl)) (pss_one (ps_expr (pe_bm PySem.F.plainAttrs_list PySem.F.slot_list_append PySem.F.type_list_append mt_append (pv 3) (pa_cons (pe_op op_cat (pv 4) (pe_lst (pa_cons (pv 5) pa_nil))) pa_nil)))))))
    (pss_one (ps_set (i := 1) sc_w_choices.nd rfl (by first | exact Or.inl rfl | exact Or.inr rfl) (pv 3))))))
    (pss_one (ps_ret (pv 1)))))
abbrev s_law : Stmt := top 47
abbrev N_law : List Str := ["_law_script", "_law_pool_here", "_law_circuit_here", "_law_sizes_here", "_law_starts_here", "_law_drawn", "_law_limits", "_law_net", "_law_due", "_law_choice", "_law_given", "_law_cost", "_law_rows", "_law_k"]
theorem sc_law : FnScope N_law ["_law_script"] (defScope s_law) := ⟨rfl, rfl, rfl, by decide +kernel, rfl, by decide +kernel, by decide +kernel⟩
def b1_law (K : PySem.W.Frag) (sp_w_choices : Sp) (sp_w_circuit : Sp) (sp_w_draw : Sp) (sp_w_late : Sp) (sp_w_meets : Sp) (sp_w_pool : Sp) (sp_w_same : Sp) (sp_w_sizes : Sp) (sp_w_starts : Sp) (sp_cheapest : Sp) : TS :=
    (tIfS (tAnd (tB (tNotN (tDGet (tVar 5) (tVar 7)))) (tTest (tOp (rI0 fun i j => .bl (decide (j < i))) (tCall sp_w_draw [] E0 (tCons (tVar 1) (tCons (tC (.int 3)) tNil))) (tC (.int 0))))) (sDPut (tVar 6) (tVar 7) (tOp (rI0 fun i j => .int (i + j)) (tDGet (tVar 5) (tVar 7)) (tOp (rIxL K) (tLst (tCons (tC (.int 0)) (tCons (tC (.int 0)) (tCons (tC (.int 1)) (tCons (tUn (rU fun i => .int (-i)) (tC (.int 1))) tNil))))) (tCall sp_w_draw [] E0 (tCons (tVar 1) (tCons (tC (.int 4)) tNil)))))) (tIfS (tTest (tOp rEq (tCall sp_w_draw [] E0 (tCons (tVar 1) (tCons (tC (.int 4)) tNil))) (tC (.int 0)))) (sDPut (tVar 6) (tVar 7) (tCall sp_w_draw [] E0 (tCons (tVar 1) (tCons (tC (.int 40)) tNil)))) tNext))
def b2_law (K : PySem.W.Frag) (sp_w_choices : Sp) (sp_w_circuit : Sp) (sp_w_draw : Sp) (sp_w_late : Sp) (sp_w_meets : Sp) (sp_w_pool : Sp) (sp_w_same : Sp) (sp_w_sizes : Sp) (sp_w_starts : Sp) (sp_cheapest : Sp) : TS :=
    (tSeq (tAsg (tCB (rSum K) (tCons (tLc (iRng1 (tCons (tCB (rLenQ K) (tCons (tVar 9) tNil)) tNil)) (gName 13) tYes (tOp (rIxT K) (tOp (rIxL K) (tOp (rIxL K) (tVar 3) (tVar 13)) (tOp (rIxL K) (tVar 9) (tVar 13))) (tC (.int 0))) [13]) tNil)) (gName 11))
    (tIfS (tAnd (tOr (tB (tIsN (tVar 8))) (tTest (tOp (rI0 fun i j => .bl (decide (i < j))) (tVar 11) (tOp (rIxT K) (tVar 8) (tC (.int 0)))))) (tB (tCall sp_w_meets [] E0 (tCons (tCall sp_w_late [] E0 (tCons (tVar 2) (tCons (tVar 4) (tCons (tVar 9) (tCons (tVar 3) tNil))))) (tCons (tVar 6) tNil))))) (tAsg (tTup (tCons (tVar 11) (tCons (tVar 9) tNil))) (gName 8)) tNext))
def rd_law (K : PySem.W.Frag) (sp_w_choices : Sp) (sp_w_circuit : Sp) (sp_w_draw : Sp) (sp_w_late : Sp) (sp_w_meets : Sp) (sp_w_pool : Sp) (sp_w_same : Sp) (sp_w_sizes : Sp) (sp_w_starts : Sp) (sp_cheapest : Sp) : TS :=
    (tSeq (tAsg (tCall sp_w_pool [] E0 (tCons (tVar 0) tNil)) (gName 1))
    (tSeq (tAsg (tCall sp_w_circuit [] E0 (tCons (tVar 1) (tCons (tC (.int 5)) tNil))) (gName 2))
    (tSeq (tAsg (tCall sp_w_sizes [] E0 (tCons (tVar 1) (tCons (tVar 2) tNil))) (gName 3))
    (tSeq (tAsg (tCall sp_w_starts [] E0 (tCons (tVar 1) (tCons (tVar 2) tNil))) (gName 4))
    (tSeq (tAsg (tCall sp_w_late [] E0 (tCons (tVar 2) (tCons (tVar 4) (tCons (tLc (iList K (tVar 3)) (gName 12) tYes (tCall sp_w_draw [] E0 (tCons (tVar 1) (tCons (tCB (rLenQ K) (tCons (tVar 12) tNil)) tNil))) [12]) (tCons (tVar 3) tNil))))) (gName 5))
    (tSeq (tAsg tDNewK (gName 6))
    (tSeq (tLock (tFor (iKeys (tVar 5)) (gName 7) (b1_law K sp_w_choices sp_w_circuit sp_w_draw sp_w_late sp_w_meets sp_w_pool sp_w_same sp_w_sizes sp_w_starts sp_cheapest)))
    (tSeq (tAsg (tC .non) (gName 8))
    (tSeq (tFor (iList K (tCall sp_w_choices [] E0 (tCons (tVar 3) tNil))) (gName 9) (b2_law K sp_w_choices sp_w_circuit sp_w_draw sp_w_late sp_w_meets sp_w_pool sp_w_same sp_w_sizes sp_w_starts sp_cheapest))
    (tSeq (tAsg (tLc (iList K (tVar 3)) (gName 12) tYes (tCB (rListQ K) (tCons (tVar 12) tNil)) [12]) (gName 10))
    (tRet (tAndV (tCall sp_w_same [] E0 (tCons (tCall sp_cheapest [] E0 (tCons (tVar 2) (tCons (tCB (rListQ K) (tCons (tVar 4) tNil)) (tCons (tVar 6) (tCons (tVar 10) tNil))))) (tCons (tVar 8) tNil))) (tOp (rEqD K) (tVar 10) (tVar 3))))))))))))))
theorem dv_law {sp_w_choices : Sp} {sp_w_circuit : Sp} {sp_w_draw : Sp} {sp_w_late : Sp} {sp_w_meets : Sp} {sp_w_pool : Sp} {sp_w_same : Sp} {sp_w_sizes : Sp} {sp_w_starts : Sp} {sp_cheapest : Sp} (T : Bl mg) (c_w_choices : Cal P w K mg base 1 "_law_choices" sp_w_choices) (c_w_circuit : Cal P w K mg base 4 "_law_circuit" sp_w_circuit) (c_w_draw : Cal P w K mg base 2 "_law_draw" sp_w_draw) (c_w_late : Cal P w K mg base 2 "_law_late" sp_w_late) (c_w_meets : Cal P w K mg base 1 "_law_meets" sp_w_meets) (c_w_pool : Cal P w K mg base 1 "_law_pool" sp_w_pool) (c_w_same : Cal P w K mg base 6 "_law_same" sp_w_same) (c_w_sizes : Cal P w K mg base 3 "_law_sizes" sp_w_sizes) (c_w_starts : Cal P w K mg base 3 "_law_starts" sp_w_starts) (c_cheapest : Cal P w K mg base 7 "cheapest" sp_cheapest) {f : Addr} {cdv : Value} {A : Around} {outer : List Env} {s : Shared} {H : Hp} {E : XK} (hr : Room 7 (A.deeper (envOfC "law" (defScope s_law) s.heap.objs.size f cdv))) :
    PSs (cxOf CX0 P w K mg base N_law "law" (defScope s_law) f cdv A outer s H E).nox (defBody s_law) (rd_law K sp_w_choices sp_w_circuit sp_w_draw sp_w_late sp_w_meets sp_w_pool sp_w_same sp_w_sizes sp_w_starts sp_cheapest) :=
  (pss_cons (ps_set (i := 1) sc_law.nd rfl (by first | exact Or.inl rfl | exact Or.inr rfl) (pe_cl c_w_pool hr (by decide) (by rfl) (pa_cons (pv 0) pa_nil)))
    (pss_cons (ps_set (i := 2) sc_law.nd rfl (by first | exact Or.inl rfl | exact Or.inr rfl) (pe_cl c_w_circuit hr (by decide) (by rfl) (pa_cons (pv 1) (pa_cons pe_int pa_nil))))
    (pss_cons (ps_set (i := 3) sc_law.nd rfl (by first | exact Or.inl rfl | exact Or.inr rfl) (pe_cl c_w_sizes hr (by decide) (by rfl) (pa_cons (pv 1) (pa_cons (pv 2) pa_nil))))
    (pss_cons (ps_set (i := 4) sc_law.nd rfl (by first | exact Or.inl rfl | exact Or.inr rfl) (pe_cl c_w_starts hr (by decide) (by rfl) (pa_cons (pv 1) (pa_cons (pv 2) pa_nil))))
    (pss_cons (ps_set (i := 5) sc_law.nd rfl (by first | exact Or.inl rfl | exact Or.inr rfl) (pe_cl c_w_late hr (by decide) (by rfl) (pa_cons (pv 2) (pa_cons (pv 4) (pa_cons (pe_lc (own := [("_law_rows", 12)]) rfl sc_law.nd (pi_list (pv 3)) (blkOk_by (own := [("_law_rows", 12)]) (N := N_law) (sc := (defScope s_law)) (by decide +kernel)) (fun _ _ _ _ _ => (pg_name (i := 12) sc_law.nd rfl (by first | exact Or.inl rfl | exact Or.inr rfl))) (fun _ _ _ _ _ => pts_nil) (fun _ _ _ _ _ => (pe_cl c_w_draw hr (by decide) (by rfl) (pa_cons (pv 1) (pa_cons (pe_callB cr_len (by rfl) T.len (by decide +kernel) (pa_cons (pv 12) pa_nil)) pa_nil))))) (pa_cons (pv 3) pa_nil))))))
    (pss_cons (ps_set (i := 6) sc_law.nd rfl (by first | exact Or.inl rfl | exact Or.inr rfl) pe_dnewK)
    (pss_cons (ps_lock (ps_for PassesOwn.never rfl (pi_keys (pv 5)) (pg_name (i := 7) sc_law.nd rfl (by first | exact Or.inl rfl | exact Or.inr rfl)) (pss_one (ps_if (PW.pt (pw_and (pt_cmp (pc_notN (pe_dget (hu_of hr) (pv 5) (pv 7) (fun _ _ => rfl)))) (pw_and1 (pt_cmpR op_gt (pe_cl c_w_draw hr (by decide) (by rfl) (pa_cons (pv 1) (pa_cons pe_int pa_nil))) pe_int (nomark _))))) (pss_one (ps_dput (hu_of hr) (pv 6) (pv 7) (pe_op op_add (pe_dget (hu_of hr) (pv 5) (pv 7) (fun _ _ => rfl)) (pe_ix ix_list (pe_lst (pa_cons pe_int (pa_cons pe_int (pa_cons pe_int (pa_cons (pe_un un_neg pe_int) pa_nil))))) (pe_cl c_w_draw hr (by decide) (by rfl) (pa_cons (pv 1) (pa_cons pe_int pa_nil))) (fun _ _ => rfl))) rfl)) (pss_one (ps_if (pt_cmpR op_eq (pe_cl c_w_draw hr (by decide) (by rfl) (pa_cons (pv 1) (pa_cons pe_int pa_nil))) pe_int (nomark _)) (pss_one (ps_dput (hu_of hr) (pv 6) (pv 7) (pe_cl c_w_draw hr (by decide) (by rfl) (pa_cons (pv 1) (pa_cons pe_int pa_nil))) rfl)) pss_nil))))))
    (pss_cons (ps_set (i := 8) sc_law.nd rfl (by first | exact Or.inl rfl | exact Or.inr rfl) pe_non)
    (pss_cons (ps_for PassesOwn.never rfl (pi_list (pe_cl c_w_choices hr (by decide) (by rfl) (pa_cons (pv 3) pa_nil))) (pg_name (i := 9) sc_law.nd rfl (by first | exact Or.inl rfl | exact Or.inr rfl)) (pss_cons (ps_set (i := 11) sc_law.nd rfl (by first | exact Or.inl rfl | exact Or.inr rfl) (pe_callB (cr_sum rfl) (by rfl) T.sum (by decide +kernel) (pa_cons (pe_lc (own := [("_law_k", 13)]) rfl sc_law.nd (pi_range1 (by rfl) T.range (pa_cons (pe_callB cr_len (by rfl) T.len (by decide +kernel) (pa_cons (pv 9) pa_nil)) pa_nil)) (blkOk_by (own := [("_law_k", 13)]) (N := N_law) (sc := (defScope s_law)) (by decide +kernel)) (fun _ _ _ _ _ => (pg_name (i := 13) sc_law.nd rfl (by first | exact Or.inl rfl | exact Or.inr rfl))) (fun _ _ _ _ _ => pts_nil) (fun _ _ _ _ _ => (pe_ix ix_tup (pe_ix ix_list (pe_ix ix_list (pv 3) (pv 13) (fun _ _ => rfl)) (pe_ix ix_list (pv 9) (pv 13) (fun _ _ => rfl)) (fun _ _ => rfl)) pe_int (fun _ _ => rfl)))) pa_nil)))
    (pss_one (ps_if (PW.pt (pw_and (PW.pt (pw_or (pt_cmp (pc_isN (pv 8))) (pw_or1 (pt_cmpR op_lt (pv 11) (pe_ix ix_tup (pv 8) pe_int (fun _ _ => rfl)) (nomark _))))) (pw_and1 (pt_val (pe_cl c_w_meets hr (by decide) (by rfl) (pa_cons (pe_cl c_w_late hr (by decide) (by rfl) (pa_cons (pv 2) (pa_cons (pv 4) (pa_cons (pv 9) (pa_cons (pv 3) pa_nil))))) (pa_cons (pv 6) pa_nil))))))) (pss_one (ps_set (i := 8) sc_law.nd rfl (by first | exact Or.inl rfl | exact Or.inr rfl) (pe_tup (pa_cons (pv 11) (pa_cons (pv 9) pa_nil))))) pss_nil))))
    (pss_cons (ps_setLc (i := 10) (own := [("_law_rows", 12)]) rfl sc_law.nd rfl rfl (sw_true rfl rfl rfl (by decide +kernel)) (pi_list (pv 3)) (blkOk_by (own := [("_law_rows", 12)]) (N := N_law) (sc := (defScope s_law)) (by decide +kernel)) (fun _ _ _ _ _ => (pg_name (i := 12) sc_law.nd rfl (by first | exact Or.inl rfl | exact Or.inr rfl))) (fun _ _ _ _ _ => pts_nil) (fun _ _ _ _ _ => (pe_callTy cr_list (by rfl) T.list (by decide +kernel) (pa_cons (pv 12) pa_nil))))
    (pss_one (ps_ret (pe_and (pe_cl c_w_same hr (by decide) (by rfl) (pa_cons (pe_cl c_cheapest hr (by decide) (by rfl) (pa_cons (pv 2) (pa_cons (pe_callTy cr_list (by rfl) T.list (by decide +kernel) (pa_cons (pv 4) pa_nil)) (pa_cons (pv 6) (pa_cons (pv 10) pa_nil))))) (pa_cons (pv 8) pa_nil))) (pe_one (pe_cmpR (op_eqD hr.units) (pv 10) (pv 3) (nomark _))))))))))))))))
end
end Sg
namespace Sg
open PySem PySem.Spec PyProof.Rows L2
local macro_rules | `(tactic| walk_at "ey") => `(tactic| first
  | exact Same.refl _
  | exact hol_le
  | assumption
  | (refine Same.on ?r (same_hol (H := ?b) ?h); (case h => assumption); walk_at "ey")
  | (refine Same.on ?r (Upd.hol (l := ?l) (H := ?b) ?h ?m); (case h => assumption); (case m => simp); walk_at "ey")
  | (refine Same.on ?r (weak1 (p := ?p) (A := ?b) ?n ?h); (case h => assumption); (case n => simp); walk_at "ey")
  | (refine Same.on (B := ?b) ?r ?h; (case h => assumption); walk_at "ey")
  | (refine Same.on ?r (same1 (A := ?b) ?h); (case h => assumption); walk_at "ey")
  | (refine Same.on ?r (same2 (A := ?b) ?h); (case h => assumption); walk_at "ey"))
local macro_rules | `(tactic| walk_at "ex") => `(tactic| first
  | exact Same.refl _
  | exact hol_le
  | assumption
  | (refine Same.on ?r (same_hol (H := ?b) ?h); (case h => assumption); walk_at "ex")
  | (refine Same.on ?r (Upd.hol (l := ?l) (H := ?b) ?h ?m); (case h => assumption); (case m => simp); walk_at "ex")
  | (refine Same.on ?r (weak1 (p := ?p) (A := ?b) ?n ?h); (case h => assumption); (case n => simp); walk_at "ex")
  | (refine Same.on (B := ?b) ?r ?h; (case h => assumption); walk_at "ex")
  | (refine Same.on ?r (same1 (A := ?b) ?h); (case h => assumption); walk_at "ex")
  | (refine Same.on ?r (same2 (A := ?b) ?h); (case h => assumption); walk_at "ex")
  | (refine Same.on ?r (hol_le (M := ?m)); walk_at "ey"))
local macro_rules | `(tactic| walk_at "dom") => `(tactic| first
  | assumption
  | exact Dom.nil
  | (refine Dom.mono (H := ?b) ?h ?d; (case h => assumption); walk_at "dom")
  | (refine dom_draw (p := ?p) (l := ?l) (ns := ?ns) (A := ?b) ?h ?c ?d; (case h => assumption); (case c => assumption); walk_at "dom")
  | (refine Dom.cons (o := ?o) ?h ?d; (case h => assumption); walk_at "dom")
  | (refine Dom.holm (A := ?b) (N := ?n) ?h ?d; (case h => assumption); walk_at "dom")
  | (refine Upd.dom (l := ?l) (H := ?b) (o := ?o) ?h ?e ?d; (case h => assumption); (case e => assumption); walk_at "dom"))
local macro_rules | `(tactic| walk_at "pl") => `(tactic| first
  | assumption
  | (refine Pl.same (A := ?b) ?s ?h; (case s => assumption); walk_at "pl"))
local macro_rules | `(tactic| walk_at "is") => `(tactic| first
  | assumption
  | exact Is.int _
  | exact Is.str _
  | exact Is.bl _
  | exact Is.non
  | (refine Is.mono (H := ?b) ?s ?h; (case h => assumption); walk_at "ex"))
local macro_rules | `(tactic| walk_at "isa") => `(tactic| first
  | exact IsA.nil
  | (refine IsA.cons (d := ?x) (ds := ?xs) ?a ?b; (case a => walk_at "is"); (case b => walk_at "isa"))
  | (refine IsA.mono (H := ?b) ?s ?h; (case h => assumption); walk_at "ex"))
local macro_rules | `(tactic| walk_at "at") => `(tactic| first
  | exact at0
  | exact at1
  | exact at2
  | exact at3
  | exact at4
  | (refine atM (a := ?a) ?h; (case h => assumption))
  | (refine atJ (a := ?a) ?h; (case h => assumption)))
local macro_rules | `(tactic| walk_at "sc") => `(tactic| (intro v hv; first
  | ((with_reducible have e := Is.int_inv hv); subst e; clear hv)
  | ((with_reducible have e := Is.str_inv hv); subst e; clear hv)
  | ((with_reducible have e := Is.bool_inv hv); subst e; clear hv)
  | ((with_reducible have e := Is.none_inv hv); subst e; clear hv)
  | skip))
local macro_rules | `(tactic| walk_at "g") => `(tactic| first
  | with_reducible refine g_seq ?_
  | with_reducible refine g_asg ?_
  | with_reducible refine g_ret ?_
  | with_reducible refine g_drop ?_
  | with_reducible refine g_ifS ?_
  | with_reducible refine g_next ?_
  | with_reducible refine g_break ?_
  | with_reducible refine g_for ?_
  | with_reducible refine g_op ?_
  | ((with_reducible refine g_var (v := ?v) ?h ?k); (case h => exact rfl))
  | with_reducible refine g_c ?_
  | with_reducible refine g_I0 ?_
  | with_reducible refine g_U ?_
  | with_reducible refine g_cons ?_
  | with_reducible refine g_nil ?_
  | with_reducible refine g_cb ?_
  | with_reducible refine g_call ?_
  | with_reducible refine g_test ?_
  | with_reducible refine g_bl ?_
  | with_reducible refine g_int ?_
  | with_reducible refine g_B ?_
  | ((with_reducible refine g_wipe ?e ?k); (case e => exact rfl))
  | with_reducible refine g_iteT ?_
  | with_reducible refine g_iteF ?_
  | with_reducible refine g_iteNT ?_
  | with_reducible refine g_iteNF ?_
  | with_reducible refine g_andK ?_
  | with_reducible refine g_orK ?_
  | with_reducible refine g_notK ?_
  | ((with_reducible refine w_tupK (B := ?b) (ds := ?ds) ?s ?h ?k); (case h => assumption); (case s => walk_at "ex"); intro a S)
  | ((with_reducible refine w_listK (B := ?b) (ds := ?ds) ?s ?h ?k); (case h => assumption); (case s => walk_at "ex"); intro a S)
  | ((with_reducible refine w_enumK (B := ?b) (ds := ?ds) ?s ?h ?k); (case h => assumption); (case s => walk_at "ex"); intro a S)
  | ((with_reducible refine w_enumTK (B := ?b) (ds := ?ds) ?s ?h ?k); (case h => assumption); (case s => walk_at "ex"); intro a S)
  | ((with_reducible refine w_zipK (B := ?b) (ds := ?ds) (es := ?es) ?s ?h ?h' ?k); (case h => assumption); (case h' => walk_at "is"); (case s => walk_at "ex"); intro a b S)
  | ((with_reducible refine w_zipMK (B := ?b) (ds := ?ds) (es := ?es) ?s ?h ?h' ?k); (case h => assumption); (case h' => walk_at "is"); (case s => walk_at "ex"); intro a b S)
  | ((with_reducible refine w_zipTK (B := ?b) (ds := ?ds) (es := ?es) ?s ?h ?h' ?k); (case h => assumption); (case h' => walk_at "is"); (case s => walk_at "ex"); intro a b S)
  | ((with_reducible refine g_listOf (M := ?m) (ds := ?ds) ?c ?d ?h ?k); (case c => assumption); (case d => walk_at "dom"); (case h => first | (refine Or.inl ?_; walk_at "is") | (refine Or.inr ?_; walk_at "is")); intro v H' hs hv)
  | ((with_reducible refine g_tupOf (M := ?m) (ds := ?ds) ?c ?d ?h ?k); (case c => assumption); (case d => walk_at "dom"); (case h => walk_at "is"); intro v H' hs hv)
  | ((with_reducible refine g_tupK (M := ?m) (ds := ?ds) ?c ?d ?h ?l ?k); (case c => assumption); (case d => walk_at "dom"); (case h => walk_at "isa"); (case l => (simp only [List.length_cons, List.length_nil]; omega)); intro v H' hs hv)
  | ((with_reducible refine g_tupT (M := ?m) (ds := ?ds) ?c ?h ?e ?k); (case c => assumption); (case h => walk_at "is"); (case e => rfl); intro xs hxs)
  | ((with_reducible refine g_fldK (C := ?c) (dx := ?dx) (fs := ?fs) (v := ?v) ?h ?cl ?na ?l ?k); (case h => assumption); (case cl => assumption); (case na => assumption); (case l => first | assumption | exact rfl))
  | ((with_reducible refine g_fldM (C := ?c) (dx := ?dx) (fs := ?fs) ?h ?cl ?na ?hl ?k); (case h => assumption); (case cl => assumption); (case na => assumption); (case hl => exact Nat.le_of_ble_eq_true rfl); intro H' u hx)
  | ((with_reducible refine g_ixM (xs := ?xs) (v := ?v) ?h ?e ?k); (case h => assumption); (case e => first | exact at0 | exact at1 | exact at2 | exact at3 | exact at4))
  | ((with_reducible refine g_lenM (xs := ?xs) ?h ?k); (case h => assumption))
  | ((with_reducible refine g_mul ?h ?k); (case h => decide))
  | ((with_reducible refine g_mod ?h ?k); (case h => first | decide | assumption | omega))
  | ((with_reducible refine g_div ?h ?l ?k); (case h => first | decide | assumption | omega); (case l => first | decide | assumption | omega))
  | ((with_reducible refine g_subM (xs := ?xs) (k := ?n) ?h ?j ?k); (case h => assumption); (case j => exact rfl); intro H' u hp)
  | ((with_reducible refine g_isi (t := ?t) (b := ?b) ?ty ?e ?k); (case ty => assumption); (case e => first | exact kit_NoneType_tuple | exact kit_NoneType_list | exact kit_NoneType_bool | exact kit_NoneType_int | exact kit_int_tuple | exact kit_int_list | exact kit_int_bool | exact kit_int_int | exact kit_list_tuple | exact kit_list_list | exact kit_list_bool | exact kit_list_int | exact kit_tuple_tuple | exact kit_tuple_list | exact kit_tuple_bool | exact kit_tuple_int))
  | ((with_reducible refine g_draw (l := ?l) (ns := ?ns) ?a ?b ?h ?k); (case a => first | decide | omega); (case b => first | decide | omega); (case h => walk_at "pl"); intro r H' h0 h1 hs pl)
  | ((with_reducible refine g_dgetS (v := ?v) (kvs := ?kvs) ?h ?e ?k); (case h => assumption); (case e => assumption))
  | with_reducible refine g_and ?_
  | with_reducible refine w_keys ?_
  | with_reducible refine w_rng3 ?_
  | with_reducible refine w_items ?_
  | with_reducible refine g_or ?_
  | with_reducible refine g_not ?_
  | with_reducible refine g_yes ?_
  | with_reducible refine g_tru ?_
  | with_reducible refine g_fld ?_
  | with_reducible refine g_meth ?_
  | with_reducible refine g_make ?_
  | with_reducible refine g_tupE ?_
  | with_reducible refine g_lstE ?_
  | with_reducible refine g_sl ?_
  | with_reducible refine g_part ?_
  | with_reducible refine g_nopart ?_
  | with_reducible refine g_bm ?_
  | with_reducible refine g_bm0 ?_
  | with_reducible refine g_if ?_
  | with_reducible refine g_un ?_
  | with_reducible refine g_isN ?_
  | with_reducible refine g_notN ?_
  | with_reducible refine g_andV ?_
  | with_reducible refine g_orV ?_
  | with_reducible refine g_notV ?_
  | with_reducible refine g_lc ?_
  | with_reducible refine g_dget ?_
  | with_reducible refine g_din ?_
  | with_reducible refine g_dnotin ?_
  | with_reducible refine g_fldS ?_
  | with_reducible refine g_dput ?_
  | with_reducible refine g_sub ?_
  | with_reducible refine g_consT ?_
  | with_reducible refine g_nilT ?_
  | ((with_reducible refine g_name (σ' := ?s) ?h ?k); (case h => (dsimp only [List.set]; exact rfl)))
  | with_reducible refine w_list ?_
  | with_reducible refine w_tup ?_
  | with_reducible refine w_rng1 ?_
  | with_reducible refine w_enumT ?_
  | with_reducible refine w_enum ?_
  | with_reducible refine w_zip ?_
  | with_reducible refine w_zipM ?_
  | with_reducible refine w_zipA ?_
  | with_reducible refine w_rng ?_
  | with_reducible refine g_int1 ?_
  | ((with_reducible refine g_ixT (M := ?m) (ds := ?ds) (d := ?d) ?c ?h ?e ?k); (case c => assumption); (case h => walk_at "is"); (case e => walk_at "at"); walk_at "sc")
  | ((with_reducible refine g_ixL (M := ?m) (ds := ?ds) (d := ?d) ?c ?h ?e ?k); (case c => assumption); (case h => walk_at "is"); (case e => walk_at "at"); walk_at "sc")
  | ((with_reducible refine g_lenL (M := ?m) (ds := ?ds) ?c ?h ?k); (case c => assumption); (case h => walk_at "is"))
  | ((with_reducible refine g_lenT (M := ?m) (ds := ?ds) ?c ?h ?k); (case c => assumption); (case h => walk_at "is")))
local macro_rules | `(tactic| walk_at "len") => `(tactic| ((try simp only [List.length_map, List.length_append, List.length_cons, List.length_nil, List.length_range, List.length_zip]); omega))
local macro_rules | `(tactic| walk_at "gg") => `(tactic| repeat walk_at "g")
def spRegister : Sp := fun vs H Q _ => ∃ (p l : Addr) (ns : List Int) (M : List Addr) (v1 v2 : V) (nm nt : Str), vs = [.ref p, v1, v2] ∧ Dom (p :: M) H ∧ Pl p l ns H ∧ Is (hol (p :: M) H) (.str nm) v1 ∧ Is (hol (p :: M) H) (.str nt) v2 ∧
  ∀ r v H', Same (hol [p] H) (hol [p] H') → Pl p l ns H' → Is (hol (p :: M) H') (encR (nm, r)) v → Q v H'
theorem r_register {K : PySem.W.Frag} {vs : List V} {H : Hp} {Q : VK} {E : XK} {n b c : L2.St → Hp → Prop} (h : spRegister vs H Q E) : rd_w_register K spDraw ⟨n, Q, b, c⟩ (start N_w_register vs) H := by
  obtain ⟨p, l, ns, M, v1, v2, nm, nt, rfl, dm, pl, i1, i2, k⟩ := h
  obtain rfl := i1.str_inv
  obtain rfl := i2.str_inv
  have cu := Sg.cur (p :: M)
  show rd_w_register K _ _ [some (.ref p), some (.str nm), some (.str nt), none, none, none, none] H
  unfold rd_w_register
  walk_at "gg"
  refine g_eq rfl ?_
  walk_at "gg"
  exact k _ _ _ (by walk_at "ex") (by walk_at "pl") (by assumption)
theorem ok_register {P : Program} {w : World} {K : PySem.W.Frag} {mg : Str → Option Value} {base : Heap} {f : Addr} {fd : FuncData} (F : Fun K "_law_register" "_law_register" s_w_register f fd) (T : Bl mg) (c1 : Cal P w K mg base 2 "_law_draw" spDraw) : FnOk P w K mg base CX0 3 f fd ["_law_pool_here", "_law_name", "_law_net"] spRegister :=
  F.ok sc_w_register (fun vs H Q E h => by
    obtain ⟨_, _, _, _, _, _, _, _, rfl, _⟩ := h
    rfl) fun cdv A outer s H vs Q E hr h => ⟨_, dv_w_register T c1 hr, r_register h⟩
theorem perm_erase {d : PyData} : ∀ {l : List PyData} {k : Nat}, l[k]? = some d → (d :: l.eraseIdx k).Perm l
  | [], _, h => by simp at h
  | a :: l, 0, h => by
    simp at h
    subst h
    exact List.Perm.refl _
  | a :: l, k + 1, h => by
    have ih := perm_erase (l := l) (k := k) (by simpa using h)
    exact (List.Perm.swap a d _).trans (ih.cons a)
def spShuffled : Sp := fun vs H Q _ => ∃ (p l : Addr) (ns : List Int) (M : List Addr) (v : V) (ds : List PyData), vs = [.ref p, v] ∧ Dom (p :: M) H ∧ Pl p l ns H ∧ Is (hol (p :: M) H) (.list ds) v ∧ ds.length < 1000 ∧
  ∀ ds' v' H', Same (hol [p] H) (hol [p] H') → Pl p l ns H' → ds'.Perm ds → Is (hol (p :: M) H') (.list ds') v' → Q v' H'
theorem r_shuffled {K : PySem.W.Frag} {vs : List V} {H : Hp} {Q : VK} {E : XK} {n b c : L2.St → Hp → Prop} (h : spShuffled vs H Q E) : rd_w_shuffled K spDraw ⟨n, Q, b, c⟩ (start N_w_shuffled vs) H := by
  obtain ⟨p, l, ns, M, v, ds, rfl, dm, pl, isv, few, k⟩ := h
  have cu := Sg.cur (p :: M)
  show rd_w_shuffled K _ _ [some (.ref p), some v, none, none, none] H
  unfold rd_w_shuffled
  iterate 6 walk_at "g"
  refine g_listM cu dm isv (fun La H1 xs hLa s1 ha1 r1 s1' s1'' => ?_)
  have pl1 := pl.same s1
  obtain ⟨nap, nal⟩ := pl_ne pl hLa
  have dm1 := dm.mono s1
  have isv1 := isv.mono (same_hol s1)
  walk_at "gg"
  refine g_lstM (Sg.cur (La :: p :: M)) (Nat.le_of_ble_eq_true rfl) (fun Lb H2 hLb s2 hb2 s2' s2'' => ?_)
  have pl2 := pl1.same s2
  obtain ⟨nbp, nbl⟩ := pl_ne pl1 hLb
  have nba : Lb ≠ La := fun q => by rw [q, ha1] at hLb; cases hLb
  have dm2 := dm1.mono s2
  have isv2 := isv1.mono (same_hol s2)
  have bM : Lb ∉ p :: M := dm1.not hLb
  clear isv isv1
  walk_at "gg"
  refine w_rng1K (n := ds.length) rfl (by omega) ?_
  clear isv2 cu
  have cu := Sg.cur (Lb :: La :: p :: M)
  refine for_map (l := List.range ds.length) (enc := fun i : Nat => PyData.int ((i : Nat) : Int)) (src_range (B := fun _ => none)) (fun j σ H' => ∃ (xs ys : List V) (dl dr : List PyData) (o4 : Option V), σ = [some (.ref p), some v, some (.ref La), some (.ref Lb), o4] ∧ H' La = some (.lst xs) ∧ H' Lb = some (.lst ys) ∧
    IsA (hol (Lb :: La :: p :: M) H') dl xs ∧ IsA (hol (Lb :: La :: p :: M) H') dr ys ∧ (dr ++ dl).Perm ds ∧ dl.length + j = ds.length ∧ Pl p l ns H' ∧ Same (hol [p] H) (hol [Lb, La, p] H')) ⟨xs, [], ds, [], none, rfl, s2 _ _ ha1, hb2, r1.mono s2', .nil, by simp, by omega, pl2, ?_⟩ (fun j σ H' q => ?_) (fun j a y σ H6 H7 ha q s67 isx => ?_) (fun σ H3 q => ?_)
  · exact (same_hol (M := [p]) s1'').trans (same_hol (M := [La, p]) s2'')
  · exact fun _ _ e => (nomatch e)
  · obtain ⟨xs, ys, dl, dr, o4, rfl, ha6, hb6, ra, rb, pm, dn, pl6, s6⟩ := q
    obtain rfl := (isx [] .nil (fun _ _ e => (nomatch e))).int_inv
    have jl := (List.getElem?_eq_some_iff.mp ha).1
    rw [List.length_range] at jl
    have ha7 := s67 _ _ ha6
    have hb7 := s67 _ _ hb6
    have pl7 := pl6.same s67
    have xl := ra.len
    have yl := rb.len
    have pml := pm.length_eq
    rw [List.length_append] at pml
    walk_at "gg"
    unfold b1_w_shuffled
    walk_at "gg"
    refine g_ty hb7 ?_
    walk_at "gg"
    refine g_ty ha7 ?_
    walk_at "gg"
    rename_i r H8 r0 rm s78 pl8
    obtain ⟨k', rfl⟩ := Int.eq_ofNat_of_zero_le r0
    have ha8 := ch_at s78 (by simp [nap]) ha7
    have hb8 := ch_at s78 (by simp [nbp]) hb7
    have kx : k' < xs.length := by omega
    obtain ⟨w, hw⟩ : ∃ w, xs[k']? = some w := ⟨_, List.getElem?_eq_getElem kx⟩
    have t8 : Same (hol (Lb :: La :: p :: M) H6) (hol (Lb :: La :: p :: M) H8) := (same_hol s67).trans (weak1 (by simp) s78)
    obtain ⟨d, hd⟩ : ∃ d, dl[k']? = some d := ⟨_, List.getElem?_eq_getElem (by omega)⟩
    refine g_popI ha8 hw (by omega) (fun H9 u9 ha9 => ?_)
    have hb9 := u9.at nba hb8
    walk_at "gg"
    refine g_app hb9 (by omega) (fun H10 u10 hb10 => ?_)
    have t10 : Same (hol (Lb :: La :: p :: M) H6) (hol (Lb :: La :: p :: M) H10) := (t8.trans (u9.hol (by simp))).trans (u10.hol (by simp))
    have ra10 := ra.mono t10
    obtain ⟨w', hw', isw⟩ := ra10.get hd
    rw [hw] at hw'
    cases hw'
    have kd : k' < dl.length := by omega
    refine ⟨xs.eraseIdx k', ys ++ [w], dl.eraseIdx k', dr ++ [d], _, rfl, u10.at nba.symm ha9, hb10, ra10.eraseIdx k', (rb.mono t10).app (IsA.one isw), ?_, ?_, ((pl8.upd u9 nap nal).upd u10 nbp nbl), ?_⟩
    · refine List.Perm.trans ?_ pm
      rw [List.append_assoc]
      refine List.Perm.append_left dr ?_
      exact perm_erase hd
    · rw [List.length_eraseIdx, if_pos kd]
      omega
    · exact (((s6.trans (same_hol (M := [Lb, La, p]) s67)).trans (weak1 (M := [Lb, La, p]) (by simp) s78)).trans (u9.hol (by simp))).trans (u10.hol (by simp))
  · obtain ⟨xs, ys, dl, dr, o4, rfl, ha6, hb6, ra, rb, pm, dn, pl6, s6⟩ := q
    rw [List.length_range] at dn
    have : dl = [] := List.eq_nil_of_length_eq_zero (by omega)
    subst this
    rw [List.append_nil] at pm
    walk_at "gg"
    refine k dr _ _ ((s6.trans (hol_sub (L := Lb) (M := [La, p]))).trans (hol_sub (L := La) (M := [p]))) pl6 pm (.lst (hol_some.mpr ⟨bM, hb6⟩) ((rb.mono hol_sub).mono hol_sub))
theorem ok_shuffled {P : Program} {w : World} {K : PySem.W.Frag} {mg : Str → Option Value} {base : Heap} {f : Addr} {fd : FuncData} (F : Fun K "_law_shuffled" "_law_shuffled" s_w_shuffled f fd) (T : Bl mg) (c1 : Cal P w K mg base 2 "_law_draw" spDraw) : FnOk P w K mg base CX0 3 f fd ["_law_pool_here", "_law_rows"] spShuffled :=
  F.ok sc_w_shuffled (fun vs H Q E h => by
    obtain ⟨_, _, _, _, _, _, rfl, _⟩ := h
    rfl) fun cdv A outer s H vs Q E hr h => ⟨_, dv_w_shuffled T c1 hr, r_shuffled h⟩

end Sg
namespace Sg
open PySem PySem.Spec PyProof.Rows L2
local macro_rules | `(tactic| walk_at "ey") => `(tactic| first
  | exact Same.refl _
  | exact hol_le
  | assumption
  | (refine Same.on ?r (same_hol (H := ?b) ?h); (case h => assumption); walk_at "ey")
  | (refine Same.on ?r (Upd.hol (l := ?l) (H := ?b) ?h ?m); (case h => assumption); (case m => simp); walk_at "ey")
  | (refine Same.on ?r (weak1 (p := ?p) (A := ?b) ?n ?h); (case h => assumption); (case n => simp); walk_at "ey")
  | (refine Same.on (B := ?b) ?r ?h; (case h => assumption); walk_at "ey")
  | (refine Same.on ?r (same1 (A := ?b) ?h); (case h => assumption); walk_at "ey")
  | (refine Same.on ?r (same2 (A := ?b) ?h); (case h => assumption); walk_at "ey"))
local macro_rules | `(tactic| walk_at "ex") => `(tactic| first
  | exact Same.refl _
  | exact hol_le
  | assumption
  | (refine Same.on ?r (same_hol (H := ?b) ?h); (case h => assumption); walk_at "ex")
  | (refine Same.on ?r (Upd.hol (l := ?l) (H := ?b) ?h ?m); (case h => assumption); (case m => simp); walk_at "ex")
  | (refine Same.on ?r (weak1 (p := ?p) (A := ?b) ?n ?h); (case h => assumption); (case n => simp); walk_at "ex")
  | (refine Same.on (B := ?b) ?r ?h; (case h => assumption); walk_at "ex")
  | (refine Same.on ?r (same1 (A := ?b) ?h); (case h => assumption); walk_at "ex")
  | (refine Same.on ?r (same2 (A := ?b) ?h); (case h => assumption); walk_at "ex")
  | (refine Same.on ?r (hol_le (M := ?m)); walk_at "ey"))
local macro_rules | `(tactic| walk_at "dom") => `(tactic| first
  | assumption
  | exact Dom.nil
  | (refine Dom.mono (H := ?b) ?h ?d; (case h => assumption); walk_at "dom")
  | (refine dom_draw (p := ?p) (l := ?l) (ns := ?ns) (A := ?b) ?h ?c ?d; (case h => assumption); (case c => assumption); walk_at "dom")
  | (refine Dom.cons (o := ?o) ?h ?d; (case h => assumption); walk_at "dom")
  | (refine Dom.holm (A := ?b) (N := ?n) ?h ?d; (case h => assumption); walk_at "dom")
  | (refine Upd.dom (l := ?l) (H := ?b) (o := ?o) ?h ?e ?d; (case h => assumption); (case e => assumption); walk_at "dom"))
local macro_rules | `(tactic| walk_at "pl") => `(tactic| first
  | assumption
  | (refine Pl.same (A := ?b) ?s ?h; (case s => assumption); walk_at "pl"))
local macro_rules | `(tactic| walk_at "is") => `(tactic| first
  | assumption
  | exact Is.int _
  | exact Is.str _
  | exact Is.bl _
  | exact Is.non
  | (refine Is.mono (H := ?b) ?s ?h; (case h => assumption); walk_at "ex"))
local macro_rules | `(tactic| walk_at "isa") => `(tactic| first
  | exact IsA.nil
  | (refine IsA.cons (d := ?x) (ds := ?xs) ?a ?b; (case a => walk_at "is"); (case b => walk_at "isa"))
  | (refine IsA.mono (H := ?b) ?s ?h; (case h => assumption); walk_at "ex"))
local macro_rules | `(tactic| walk_at "at") => `(tactic| first
  | exact at0
  | exact at1
  | exact at2
  | exact at3
  | exact at4
  | (refine atM (a := ?a) ?h; (case h => assumption))
  | (refine atJ (a := ?a) ?h; (case h => assumption)))
local macro_rules | `(tactic| walk_at "sc") => `(tactic| (intro v hv; first
  | ((with_reducible have e := Is.int_inv hv); subst e; clear hv)
  | ((with_reducible have e := Is.str_inv hv); subst e; clear hv)
  | ((with_reducible have e := Is.bool_inv hv); subst e; clear hv)
  | ((with_reducible have e := Is.none_inv hv); subst e; clear hv)
  | skip))
local macro_rules | `(tactic| walk_at "g") => `(tactic| first
  | with_reducible refine g_seq ?_
  | with_reducible refine g_asg ?_
  | with_reducible refine g_ret ?_
  | with_reducible refine g_drop ?_
  | with_reducible refine g_ifS ?_
  | with_reducible refine g_next ?_
  | with_reducible refine g_break ?_
  | with_reducible refine g_for ?_
  | with_reducible refine g_op ?_
  | ((with_reducible refine g_var (v := ?v) ?h ?k); (case h => exact rfl))
  | with_reducible refine g_c ?_
  | with_reducible refine g_I0 ?_
  | with_reducible refine g_U ?_
  | with_reducible refine g_cons ?_
  | with_reducible refine g_nil ?_
  | with_reducible refine g_cb ?_
  | with_reducible refine g_call ?_
  | with_reducible refine g_test ?_
  | with_reducible refine g_bl ?_
  | with_reducible refine g_int ?_
  | with_reducible refine g_B ?_
  | ((with_reducible refine g_wipe ?e ?k); (case e => exact rfl))
  | with_reducible refine g_iteT ?_
  | with_reducible refine g_iteF ?_
  | with_reducible refine g_iteNT ?_
  | with_reducible refine g_iteNF ?_
  | with_reducible refine g_andK ?_
  | with_reducible refine g_orK ?_
  | with_reducible refine g_notK ?_
  | ((with_reducible refine w_tupK (B := ?b) (ds := ?ds) ?s ?h ?k); (case h => assumption); (case s => walk_at "ex"); intro a S)
  | ((with_reducible refine w_listK (B := ?b) (ds := ?ds) ?s ?h ?k); (case h => assumption); (case s => walk_at "ex"); intro a S)
  | ((with_reducible refine w_enumK (B := ?b) (ds := ?ds) ?s ?h ?k); (case h => assumption); (case s => walk_at "ex"); intro a S)
  | ((with_reducible refine w_enumTK (B := ?b) (ds := ?ds) ?s ?h ?k); (case h => assumption); (case s => walk_at "ex"); intro a S)
  | ((with_reducible refine w_zipK (B := ?b) (ds := ?ds) (es := ?es) ?s ?h ?h' ?k); (case h => assumption); (case h' => walk_at "is"); (case s => walk_at "ex"); intro a b S)
  | ((with_reducible refine w_zipMK (B := ?b) (ds := ?ds) (es := ?es) ?s ?h ?h' ?k); (case h => assumption); (case h' => walk_at "is"); (case s => walk_at "ex"); intro a b S)
  | ((with_reducible refine w_zipTK (B := ?b) (ds := ?ds) (es := ?es) ?s ?h ?h' ?k); (case h => assumption); (case h' => walk_at "is"); (case s => walk_at "ex"); intro a b S)
  | ((with_reducible refine g_listOf (M := ?m) (ds := ?ds) ?c ?d ?h ?k); (case c => assumption); (case d => walk_at "dom"); (case h => first | (refine Or.inl ?_; walk_at "is") | (refine Or.inr ?_; walk_at "is")); intro v H' hs hv)
  | ((with_reducible refine g_tupOf (M := ?m) (ds := ?ds) ?c ?d ?h ?k); (case c => assumption); (case d => walk_at "dom"); (case h => walk_at "is"); intro v H' hs hv)
  | ((with_reducible refine g_tupK (M := ?m) (ds := ?ds) ?c ?d ?h ?l ?k); (case c => assumption); (case d => walk_at "dom"); (case h => walk_at "isa"); (case l => (simp only [List.length_cons, List.length_nil]; omega)); intro v H' hs hv)
  | ((with_reducible refine g_tupT (M := ?m) (ds := ?ds) ?c ?h ?e ?k); (case c => assumption); (case h => walk_at "is"); (case e => rfl); intro xs hxs)
  | ((with_reducible refine g_fldK (C := ?c) (dx := ?dx) (fs := ?fs) (v := ?v) ?h ?cl ?na ?l ?k); (case h => assumption); (case cl => assumption); (case na => assumption); (case l => first | assumption | exact rfl))
  | ((with_reducible refine g_fldM (C := ?c) (dx := ?dx) (fs := ?fs) ?h ?cl ?na ?hl ?k); (case h => assumption); (case cl => assumption); (case na => assumption); (case hl => exact Nat.le_of_ble_eq_true rfl); intro H' u hx)
  | ((with_reducible refine g_ixM (xs := ?xs) (v := ?v) ?h ?e ?k); (case h => assumption); (case e => first | exact at0 | exact at1 | exact at2 | exact at3 | exact at4))
  | ((with_reducible refine g_lenM (xs := ?xs) ?h ?k); (case h => assumption))
  | ((with_reducible refine g_mul ?h ?k); (case h => decide))
  | ((with_reducible refine g_mod ?h ?k); (case h => first | decide | assumption | omega))
  | ((with_reducible refine g_div ?h ?l ?k); (case h => first | decide | assumption | omega); (case l => first | decide | assumption | omega))
  | ((with_reducible refine g_subM (xs := ?xs) (k := ?n) ?h ?j ?k); (case h => assumption); (case j => exact rfl); intro H' u hp)
  | ((with_reducible refine g_isi (t := ?t) (b := ?b) ?ty ?e ?k); (case ty => assumption); (case e => first | exact kit_NoneType_tuple | exact kit_NoneType_list | exact kit_NoneType_bool | exact kit_NoneType_int | exact kit_int_tuple | exact kit_int_list | exact kit_int_bool | exact kit_int_int | exact kit_list_tuple | exact kit_list_list | exact kit_list_bool | exact kit_list_int | exact kit_tuple_tuple | exact kit_tuple_list | exact kit_tuple_bool | exact kit_tuple_int))
  | ((with_reducible refine g_draw (l := ?l) (ns := ?ns) ?a ?b ?h ?k); (case a => first | decide | omega); (case b => first | decide | omega); (case h => walk_at "pl"); intro r H' h0 h1 hs pl)
  | ((with_reducible refine g_dgetS (v := ?v) (kvs := ?kvs) ?h ?e ?k); (case h => assumption); (case e => assumption))
  | with_reducible refine g_and ?_
  | with_reducible refine w_keys ?_
  | with_reducible refine w_rng3 ?_
  | with_reducible refine w_items ?_
  | with_reducible refine g_or ?_
  | with_reducible refine g_not ?_
  | with_reducible refine g_yes ?_
  | with_reducible refine g_tru ?_
  | with_reducible refine g_fld ?_
  | with_reducible refine g_meth ?_
  | with_reducible refine g_make ?_
  | with_reducible refine g_tupE ?_
  | with_reducible refine g_lstE ?_
  | with_reducible refine g_sl ?_
  | with_reducible refine g_part ?_
  | with_reducible refine g_nopart ?_
  | with_reducible refine g_bm ?_
  | with_reducible refine g_bm0 ?_
  | with_reducible refine g_if ?_
  | with_reducible refine g_un ?_
  | with_reducible refine g_isN ?_
  | with_reducible refine g_notN ?_
  | with_reducible refine g_andV ?_
  | with_reducible refine g_orV ?_
  | with_reducible refine g_notV ?_
  | with_reducible refine g_lc ?_
  | with_reducible refine g_dget ?_
  | with_reducible refine g_din ?_
  | with_reducible refine g_dnotin ?_
  | with_reducible refine g_fldS ?_
  | with_reducible refine g_dput ?_
  | with_reducible refine g_sub ?_
  | with_reducible refine g_consT ?_
  | with_reducible refine g_nilT ?_
  | ((with_reducible refine g_name (σ' := ?s) ?h ?k); (case h => (dsimp only [List.set]; exact rfl)))
  | with_reducible refine w_list ?_
  | with_reducible refine w_tup ?_
  | with_reducible refine w_rng1 ?_
  | with_reducible refine w_enumT ?_
  | with_reducible refine w_enum ?_
  | with_reducible refine w_zip ?_
  | with_reducible refine w_zipM ?_
  | with_reducible refine w_zipA ?_
  | with_reducible refine w_rng ?_
  | with_reducible refine g_int1 ?_
  | ((with_reducible refine g_ixT (M := ?m) (ds := ?ds) (d := ?d) ?c ?h ?e ?k); (case c => assumption); (case h => walk_at "is"); (case e => walk_at "at"); walk_at "sc")
  | ((with_reducible refine g_ixL (M := ?m) (ds := ?ds) (d := ?d) ?c ?h ?e ?k); (case c => assumption); (case h => walk_at "is"); (case e => walk_at "at"); walk_at "sc")
  | ((with_reducible refine g_lenL (M := ?m) (ds := ?ds) ?c ?h ?k); (case c => assumption); (case h => walk_at "is"))
  | ((with_reducible refine g_lenT (M := ?m) (ds := ?ds) ?c ?h ?k); (case c => assumption); (case h => walk_at "is")))
local macro_rules | `(tactic| walk_at "len") => `(tactic| ((try simp only [List.length_map, List.length_append, List.length_cons, List.length_nil, List.length_range, List.length_zip]); omega))
local macro_rules | `(tactic| walk_at "gg") => `(tactic| repeat walk_at "g")
def spCircuit : Sp := fun vs H Q _ => ∃ (p l : Addr) (ns : List Int) (M : List Addr), vs = [.ref p, .int 5] ∧ Dom (p :: M) H ∧ Pl p l ns H ∧
  ∀ c v H', Same (hol [p] H) (hol [p] H') → Pl p l ns H' → Is (hol (p :: M) H') (encC c) v → Sound c → c.gates.length ≤ 5 → (∀ n ∈ nets c, PyData.strOk n = true) → Q v H'
structure GB (p l : Addr) (ns : List Int) (M : List Addr) (Ln Lg : Addr) (H0 B : Hp) (sn : List Str) (gs : List Gate) (H' : Hp) : Prop where
  nt : H' Ln = some (.lst ((sn ++ gs.map (·.name)).map V.str))
  gt : ∃ xs, H' Lg = some (.lst xs) ∧ IsA (hol (p :: Lg :: Ln :: M) H') (gs.map encG) xs
  ok : GS sn gs
  pl : Pl p l ns H'
  dm : Dom (p :: Lg :: Ln :: M) H'
  sb : Same (hol (p :: Lg :: Ln :: M) B) (hol (p :: Lg :: Ln :: M) H')
  s0 : Same (hol [p] H0) (hol [Lg, Ln, p] H')
section
variable {p l : Addr} {ns : List Int} {M : List Addr} {Ln Lg : Addr} {H0 B A A' : Hp} {sn : List Str} {gs : List Gate}
theorem GB.same (s : Same A A') (h : GB p l ns M Ln Lg H0 B sn gs A) : GB p l ns M Ln Lg H0 B sn gs A' := by
  obtain ⟨h1, ⟨xs, h2, h3⟩, h4, h5, h6, h7, h8⟩ := h
  exact ⟨s _ _ h1, ⟨xs, s _ _ h2, h3.mono (same_hol s)⟩, h4, h5.same s, h6.mono s, h7.trans (same_hol s), h8.trans (same_hol (M := [Lg, Ln, p]) s)⟩
theorem GB.draw (s : Same (hol [p] A) (hol [p] A')) (pl : Pl p l ns A') (np : Ln ≠ p) (gp : Lg ≠ p) (h : GB p l ns M Ln Lg H0 B sn gs A) : GB p l ns M Ln Lg H0 B sn gs A' := by
  obtain ⟨h1, ⟨xs, h2, h3⟩, h4, h5, h6, h7, h8⟩ := h
  have t : Same (hol (p :: Lg :: Ln :: M) A) (hol (p :: Lg :: Ln :: M) A') := weak1 (by simp) s
  exact ⟨ch_at s (by simp [np]) h1, ⟨xs, ch_at s (by simp [gp]) h2, h3.mono t⟩, h4, pl, dom_draw s pl h6, h7.trans t, h8.trans (weak1 (M := [Lg, Ln, p]) (by simp) s)⟩
end
theorem r_circuit {K : PySem.W.Frag} {vs : List V} {H : Hp} {Q : VK} {E : XK} {n b c : L2.St → Hp → Prop} (h : spCircuit vs H Q E) : rd_w_circuit K spDraw spRegister spShuffled spTable ⟨n, Q, b, c⟩ (start N_w_circuit vs) H := by
  obtain ⟨p, l, ns, M, rfl, dm, pl, k⟩ := h
  have cu := Sg.cur (p :: M)
  have add : ∀ (s : Str), s ∈ (["i", "r", "g", "p"] : List Str) → ∀ i : Nat, i < 6 → s.length + (((toString ((i : Nat) : Int) : String) : Str)).length < 100000 := nm_add
  have mi : ("i" : Str) ∈ (["i", "r", "g", "p"] : List Str) := by decide +kernel
  have mr : ("r" : Str) ∈ (["i", "r", "g", "p"] : List Str) := by decide +kernel
  have mg : ("g" : Str) ∈ (["i", "r", "g", "p"] : List Str) := by decide +kernel
  have mp : ("p" : Str) ∈ (["i", "r", "g", "p"] : List Str) := by decide +kernel
  show rd_w_circuit K _ _ _ _ _ [some (.ref p), some (.int 5), none, none, none, none, none, none, none, none, none, none, none, none, none] H
  unfold rd_w_circuit
  walk_at "gg"
  rename_i r1 H1 r10 r11 s1 pl1
  have dm1 : Dom (p :: M) H1 := by walk_at "dom"
  refine w_rng1K (n := (1 + r1).toNat) (by omega) (by omega) ?_
  have ha : (1 + r1).toNat ≤ 3 := by omega
  have ha1 : 0 < (1 + r1).toNat := by omega
  generalize (1 + r1).toNat = na at ha ha1
  refine lc_map (l := List.range na) (enc := fun i : Nat => PyData.int ((i : Nat) : Int)) (src_range (B := hol (p :: M) H1)) (fun k => some (.str (nm "i" k))) cu dm1 (Same.refl _) (by rw [List.length_range]; omega) (fun i a x L H' Y No hd cu dm' sM s0 isx kY kN => ?_) (fun v2 H2 s2 is2 => ?_)
  · obtain rfl := isx.int_inv
    have hi := List.mem_range.mp (List.mem_of_getElem? hd)
    show gName 6 _ [some (.ref p), some (.int 5), none, none, none, none, none, none, none, none, none, none, none, none, none] H' _
    walk_at "gg"
    refine g_str ⟨by omega, by omega⟩ ?_
    refine g_addS (add _ mi a (by omega)) ?_
    exact kY _ _ _ (Same.refl _) (Is.str _) rfl
  rw [fm_some] at is2
  have e2 : ((List.range na).map fun k => PyData.str (nm "i" k)) = (nms "i" na).map PyData.str := by unfold nms; rw [List.map_map]; rfl
  rw [e2] at is2
  have pl2 := pl1.same s2
  have dm2 := dm1.mono s2
  have t2 : Same (hol [p] H) (hol [p] H2) := s1.trans (same_hol s2)
  walk_at "gg"
  rename_i r3 H3 r30 r31 s3 pl3
  have dm3 : Dom (p :: M) H3 := by walk_at "dom"
  have is23 := is2.mono (weak1 (M := p :: M) (by simp) s3)
  refine w_rng1K (n := r3.toNat) (by omega) (by omega) ?_
  have hb : r3.toNat ≤ 3 := by omega
  generalize r3.toNat = nb at hb
  refine lc_map (l := List.range nb) (enc := fun i : Nat => PyData.int ((i : Nat) : Int)) (src_range (B := hol (p :: M) H3)) (fun k => some (.str (nm "r" k))) cu dm3 (Same.refl _) (by rw [List.length_range]; omega) (fun i a x L H' Y No hd cu dm' sM s0 isx kY kN => ?_) (fun v4 H4 s4 is4 => ?_)
  · obtain rfl := isx.int_inv
    have hi := List.mem_range.mp (List.mem_of_getElem? hd)
    show gName 6 _ [some (.ref p), some (.int 5), some v2, none, none, none, none, none, none, none, none, none, none, none, none] H' _
    walk_at "gg"
    refine g_str ⟨by omega, by omega⟩ ?_
    refine g_addS (add _ mr a (by omega)) ?_
    exact kY _ _ _ (Same.refl _) (Is.str _) rfl
  rw [fm_some] at is4
  have e4 : ((List.range nb).map fun k => PyData.str (nm "r" k)) = (nms "r" nb).map PyData.str := by unfold nms; rw [List.map_map]; rfl
  rw [e4] at is4
  have pl4 := pl3.same s4
  have dm4 := dm3.mono s4
  have is24 := is23.mono (same_hol s4)
  have t4 : Same (hol [p] H) (hol [p] H4) := (t2.trans s3).trans (same_hol s4)
  have ln : ∀ s n, (nms s n).length = n := fun s n => by unfold nms; rw [List.length_map, List.length_range]
  clear dm pl dm1 pl1 dm2 pl2 dm3 pl3 is2 is23
  walk_at "gg"
  refine g_catS cu is24 is4 (by rw [ln, ln]; omega) (fun Ln H5 hLn s5 hn5 s5' s5'' => ?_)
  walk_at "gg"
  have pl5 := pl4.same s5
  obtain ⟨nnp, nnl⟩ := pl_ne pl4 hLn
  refine g_lstM (Sg.cur (Ln :: p :: M)) (Nat.le_of_ble_eq_true rfl) (fun Lg H6 hLg s6 hg6 s6' s6'' => ?_)
  have pl6 := pl5.same s6
  obtain ⟨ngp, ngl⟩ := pl_ne pl5 hLg
  have ngn : Lg ≠ Ln := fun q => by rw [q, hn5] at hLg; cases hLg
  have dm6 := ((dm4.mono s5).mono s6)
  have hn6 := s6 _ _ hn5
  have u6 : Same (hol (p :: M) H4) (hol (p :: Lg :: Ln :: M) H6) := (s5'.trans s6').trans (hol_anti (by intro a h; simp at h ⊢; rcases h with h | h | h | h <;> simp [h]))
  have is26 := is24.mono u6
  have is46 := is4.mono u6
  have dmN : Dom (p :: Lg :: Ln :: M) H6 := fun m hm => by
    rcases List.mem_cons.mp hm with q | hm
    · exact dm6 m (by simp [q])
    · rcases List.mem_cons.mp hm with q | hm
      · rw [q]; exact ⟨_, hg6⟩
      · rcases List.mem_cons.mp hm with q | hm
        · rw [q]; exact ⟨_, hn6⟩
        · exact dm6 m (List.mem_cons_of_mem _ hm)
  have t6 : Same (hol [p] H) (hol [Lg, Ln, p] H6) := (t4.trans (same_hol (M := [p]) s5'')).trans (same_hol (M := [Ln, p]) s6'')
  have MM : Lg ∉ M ∧ Ln ∉ M := ⟨fun q => ((dm4.mono s5).not hLg) (List.mem_cons_of_mem _ q), fun q => (dm4.not hLn) (List.mem_cons_of_mem _ q)⟩
  clear is24 is4 cu dm4 pl4 pl5
  walk_at "gg"
  rename_i r7 H7 r70 r71 s7 pl7
  have G7 : GB p l ns M Ln Lg H H7 (nms "i" na ++ nms "r" nb) [] H7 := by
    have w7 : Same (hol (p :: Lg :: Ln :: M) H6) (hol (p :: Lg :: Ln :: M) H7) := weak1 (by simp) s7
    refine ⟨?_, ⟨[], ch_at s7 (by simp [ngp]) hg6, .nil⟩, GS.nil _, pl7, dom_draw s7 pl7 dmN, Same.refl _, t6.trans (weak1 (M := [Lg, Ln, p]) (by simp) s7)⟩
    rw [List.map_nil, List.append_nil]
    exact ch_at s7 (by simp [nnp]) hn6
  have is27 := is26.mono (weak1 (M := p :: Lg :: Ln :: M) (by simp) s7)
  have is47 := is46.mono (weak1 (M := p :: Lg :: Ln :: M) (by simp) s7)
  refine w_rng1K (n := r7.toNat) (by omega) (by omega) ?_
  have hng : r7.toNat ≤ 5 := by omega
  generalize r7.toNat = ng at hng
  have snl : (nms "i" na ++ nms "r" nb).length = na + nb := by rw [List.length_append, ln, ln]
  refine for_map (l := List.range ng) (enc := fun i : Nat => PyData.int ((i : Nat) : Int)) (src_range (B := fun _ => none)) (fun i σ H' => ∃ (gs : List Gate) (o6 o9 o10 o11 o12 o14 : Option V), σ = [some (.ref p), some (.int 5), some v2, some v4, some (.ref Ln), some (.ref Lg), o6, none, none, o9, o10, o11, o12, none, o14] ∧ gs.length = i ∧
    GB p l ns M Ln Lg H H7 (nms "i" na ++ nms "r" nb) gs H') ⟨[], _, none, none, none, none, none, rfl, rfl, G7⟩ (fun j σ H' q => ?_) (fun j a y σ H8 H9 ha' q s89 isx => ?_) (fun σ H8 q => ?_)
  · exact fun _ _ e => (nomatch e)
  · obtain ⟨gs, o6, o9, o10, o11, o12, o14, rfl, gl, G8⟩ := q
    obtain rfl := (isx [] .nil (fun _ _ e => (nomatch e))).int_inv
    obtain ⟨jl, je⟩ := List.getElem?_eq_some_iff.mp ha'
    rw [List.length_range] at jl
    rw [List.getElem_range] at je
    subst je
    have G9 := G8.same s89
    have pl9 := G9.pl
    have dm9 := G9.dm
    clear pl6 pl7 s89 G8
    walk_at "gg"
    unfold b2_w_circuit
    walk_at "gg"
    refine g_lstM (Sg.cur (p :: Lg :: Ln :: M)) (Nat.le_of_ble_eq_true rfl) (fun L3 HA hL3 sA hA _ _ => ?_)
    have GA := G9.same sA
    have plA := GA.pl
    have n3p := (pl_ne pl9 hL3).1
    walk_at "gg"
    rename_i rB HB rB0 rB1 sB plB
    have GB' := GA.draw sB plB nnp ngp
    have hB3 := ch_at sB (by simp [n3p]) hA
    obtain ⟨z, hz, z0, z3⟩ := pin_at rB0 rB1
    refine g_ixM hB3 hz ?_
    walk_at "gg"
    refine w_rng1K (n := z.toNat) (by omega) (by omega) ?_
    have hzn : z.toNat ≤ 3 := by omega
    generalize z.toNat = np at hzn
    have dmB := GB'.dm
    have hnB := GB'.nt
    have nlen : ((nms "i" na ++ nms "r" nb) ++ gs.map (·.name)).length = na + nb + gs.length := by rw [List.length_append, snl, List.length_map]
    generalize hnames : (nms "i" na ++ nms "r" nb) ++ gs.map (·.name) = names at hnB nlen
    have nl1 : 0 < ((names.map V.str).length : Int) := by rw [List.length_map, nlen]; omega
    have nl2 : ((names.map V.str).length : Int) ≤ 2 ^ 64 := by rw [List.length_map, nlen]; omega
    clear pl9 dm9 plA
    refine lc_draw (ls := List.range np) (enc := fun i : Nat => PyData.int ((i : Nat) : Int)) (src_range (B := fun _ => none)) (fun _ d => ∃ s, d = .str s ∧ s ∈ names) (Sg.cur (p :: Lg :: Ln :: M)) dmB plB (fun _ _ e => (nomatch e)) (by rw [List.length_range]; omega) (fun i a x L H' Y No hd cu dm' sM s0 plD isx kY => ?_) (fun vC out HC sC plC hout isC => ?_)
    · obtain rfl := isx.int_inv
      show gName 14 _ [some (.ref p), some (.int 5), some v2, some v4, some (.ref Ln), some (.ref Lg), _, none, none, o9, o10, o11, o12, none, none] H' _
      have hnD : H' Ln = some (.lst (names.map V.str)) := hol_le _ _ (s0 _ _ (hol_some.mpr ⟨by simp [nnp], hnB⟩))
      walk_at "gg"
      rename_i rE HE rE0 rE1 sE plE
      obtain ⟨s, ms, hs⟩ := str_at rE0 rE1
      refine g_ixM (ch_at sE (by simp [nnp]) hnD) hs ?_
      exact kY _ _ _ sE plE (Is.str _) ⟨s, rfl, ms⟩
    obtain ⟨ps, rfl, hps⟩ := paired_ex (f := PyData.str) (R' := fun _ s => s ∈ names) (fun _ _ h => h) hout
    have psl : ps.length = np := by rw [← hps.length, List.length_range]
    have psm : ∀ s ∈ ps, s ∈ names := fun s hs => by
      obtain ⟨_, _, h⟩ := paired_all hps s hs
      exact h
    have GC := GB'.draw sC plC nnp ngp
    have dmC := GC.dm
    have cu := Sg.cur (p :: Lg :: Ln :: M)
    walk_at "gg"
    rename_i vP HD sD isD
    have GD := GC.same sD
    refine g_lstM cu (Nat.le_of_ble_eq_true rfl) (fun Lr HE hLr sE hrE sE' sE'' => ?_)
    have plE := GD.pl.same sE
    obtain ⟨nrp, nrl⟩ := pl_ne GD.pl hLr
    have nrN : Lr ∉ p :: Lg :: Ln :: M := GD.dm.not hLr
    have isE := isD.mono sE'
    have dmE : Dom (Lr :: p :: Lg :: Ln :: M) HE := .cons hrE (GD.dm.mono sE)
    clear cu plC plB GC isC dmC GA GB' G9 dmB
    have cu := Sg.cur (Lr :: p :: Lg :: Ln :: M)
    walk_at "gg"
    refine for_map ‹Src _ (hol (Lr :: p :: Lg :: Ln :: M) HE) (ps.map PyData.str)› (fun i σ H' => ∃ (rg : List (Int × Int)) (xs : List V) (o11 o12 : Option V), σ = [some (.ref p), some (.int 5), some v2, some v4, some (.ref Ln), some (.ref Lg), some (.int ((j : Nat) : Int)), none, none, some vP, some (.ref Lr), o11, o12, none, o14] ∧
      H' Lr = some (.lst xs) ∧ IsA (hol (Lr :: p :: Lg :: Ln :: M) H') (rg.map encP) xs ∧ rg.length = i ∧ Pl p l ns H' ∧ Dom (Lr :: p :: Lg :: Ln :: M) H' ∧ Same (hol [Lr, p] HE) (hol [Lr, p] H')) ⟨[], [], _, _, rfl, hrE, .nil, rfl, plE, dmE, Same.refl _⟩ (fun j σ H' q => ?_) (fun i a y σ HF HG haF q sFG isx => ?_) (fun σ HF q => ?_)
    · obtain ⟨_, _, _, _, _, _, _, _, _, _, s6⟩ := q
      exact (ch_is s6 (by simp)).trans hol_le
    · obtain ⟨rg, xs, o11, o12, rfl, hrF, rF, rl, plF, dmF, sF⟩ := q
      have il := (List.getElem?_eq_some_iff.mp haF).1
      have hrG := sFG _ _ hrF
      have plG := plF.same sFG
      have dmG := dmF.mono sFG
      have xl := rF.len
      rw [List.length_map] at xl
      walk_at "gg"
      unfold b1_w_circuit
      walk_at "gg"
      rename_i rI HI rI0 rI1 sI plI
      have hrI := ch_at sI (by simp [nrp]) hrG
      refine g_ty hrI ?_
      have dmI : Dom (Lr :: p :: Lg :: Ln :: M) HI := dom_draw sI plI dmG
      walk_at "gg"
      rename_i rJ HJ rJ0 rJ1 sJ plJ vK HK sK isK
      have hrK := sK _ _ (ch_at sJ (by simp [nrp]) hrI)
      refine g_app hrK (by omega) (fun HO u hrO => ?_)
      have tO : Same (hol (Lr :: p :: Lg :: Ln :: M) HF) (hol (Lr :: p :: Lg :: Ln :: M) HO) := ((((same_hol sFG).trans (weak1 (by simp) sI)).trans (weak1 (by simp) sJ)).trans (same_hol sK)).trans (u.hol (by simp))
      refine ⟨rg ++ [(rI, rI + 2 + rJ)], _, _, _, rfl, hrO, ?_, by rw [List.length_append, List.length_singleton, rl], (plJ.same sK).upd u nrp nrl, u.dom hrO ((dom_draw sJ plJ dmI).mono sK), ?_⟩
      · rw [List.map_append]
        exact (rF.mono tO).app (IsA.one (isK.mono (u.hol (by simp))))
      · exact ((((sF.trans (same_hol (M := [Lr, p]) sFG)).trans (weak1 (M := [Lr, p]) (by simp) sI)).trans (weak1 (M := [Lr, p]) (by simp) sJ)).trans (same_hol (M := [Lr, p]) sK)).trans (u.hol (by simp))
    · obtain ⟨rg, xs, o11, o12, rfl, hrF, rF, rl, plF, dmF, sF⟩ := q
      have sDF := ch_new sE'' sF
      have GF := GD.draw sDF plF nnp ngp
      have isPF := isD.mono (weak1 (M := p :: Lg :: Ln :: M) (by simp) sDF)
      have isR : Is (hol (p :: Lg :: Ln :: M) HF) (.list (rg.map encP)) (.ref Lr) := lst_fin hrF rF nrN
      obtain ⟨xg, hgF, rgF⟩ := GF.gt
      have dmF := GF.dm
      clear cu isD isE plE dmE GD sDF
      have cu := Sg.cur (p :: Lg :: Ln :: M)
      walk_at "gg"
      refine g_ty hgF ?_
      walk_at "gg"
      refine g_str ⟨by omega, by omega⟩ ?_
      walk_at "gg"
      refine g_addS (add _ mg j (by omega)) ?_
      walk_at "gg"
      refine ⟨p, l, ns, Lg :: Ln :: M, _, rfl, dmF, plF, by omega, by rw [List.length_map]; omega, fun dT vT HT sT plT isT => ?_⟩
      have dmT := dom_draw sT plT dmF
      walk_at "gg"
      rename_i vU HU sU isU vW HW sW isW
      have GW := ((GF.draw sT plT nnp ngp).same sU).same sW
      obtain ⟨xw, hgW, rgW⟩ := GW.gt
      have hnW := GW.nt
      have xwl := rgW.len
      rw [List.length_map] at xwl
      refine g_app hgW (by omega) (fun HX uX hgX => ?_)
      have hnX := uX.at ngn.symm hnW
      walk_at "gg"
      refine g_ty hnX ?_
      walk_at "gg"
      refine g_str ⟨by omega, by omega⟩ ?_
      walk_at "gg"
      refine g_addS (add _ mg j (by omega)) ?_
      walk_at "gg"
      refine g_app hnX (by rw [List.length_map, hnames, nlen]; omega) (fun HY uY hnY => ?_)
      have tWY : Same (hol (p :: Lg :: Ln :: M) HW) (hol (p :: Lg :: Ln :: M) HY) := (uX.hol (by simp)).trans (uY.hol (by simp))
      have hgY := uY.at ngn hgX
      have new := nm_new ha hb (by omega : j < 5) GF.ok gl
      refine ⟨gs ++ [⟨nm "g" j, dT, ps, rg⟩], _, _, _, _, _, _, rfl, by rw [List.length_append, List.length_singleton, gl], ?_, ⟨_, hgY, ?_⟩, ?_, (GW.pl.upd uX ngp ngl).upd uY nnp nnl, uY.dom hnY (uX.dom hgX GW.dm), GW.sb.trans tWY, GW.s0.trans ((uX.hol (by simp)).trans (uY.hol (by simp)))⟩
      · refine hnY.trans ?_
        rw [List.map_append (f := fun x : Gate => x.name), ← List.append_assoc, List.map_append (l₂ := List.map _ [_])]
        rfl
      · rw [List.map_append]
        exact (rgW.mono tWY).app (IsA.one (isW.mono tWY))
      · exact GF.ok.snoc (by rw [gl]) (by exact new) ⟨rl, by show ps.length ≤ 3; omega⟩ (fun n hn => by rw [hnames]; exact psm n hn)
  · obtain ⟨gs, o6, o9, o10, o11, o12, o14, rfl, gl, G8⟩ := q
    rw [List.length_range] at gl
    have is28 := is27.mono G8.sb
    have is48 := is47.mono G8.sb
    have hn8 := G8.nt
    have hok := G8.ok
    have pl8 := G8.pl
    have dm8 := G8.dm
    have nlen : ((nms "i" na ++ nms "r" nb) ++ gs.map (·.name)).length = na + nb + gs.length := by rw [List.length_append, snl, List.length_map]
    generalize hnames : (nms "i" na ++ nms "r" nb) ++ gs.map (·.name) = names at hn8 nlen
    have nl1 : 0 < ((names.map V.str).length : Int) := by rw [List.length_map, nlen]; omega
    have nl2 : ((names.map V.str).length : Int) ≤ 2 ^ 64 := by rw [List.length_map, nlen]; omega
    have cu := Sg.cur (p :: Lg :: Ln :: M)
    clear is26 is46 is27 is47 pl6 pl7 G7 dmN dm6
    walk_at "gg"
    refine lc_draw (ls := nms "r" nb) (enc := PyData.str) ‹Src _ (hol (p :: Lg :: Ln :: M) H8) _› (fun s d => ∃ r : Str × List PyData, d = encR r ∧ r.1 = s) cu dm8 pl8 (Same.refl _) (by rw [ln]; omega) (fun i a x L H' Y No hd cu' dm' sM s0 plD isx kY => ?_) (fun vA out HA sA plA hout isA => ?_)
    · obtain rfl := isx.str_inv
      show gName 13 _ [some (.ref p), some (.int 5), some v2, some v4, some (.ref Ln), some (.ref Lg), o6, none, none, o9, o10, o11, o12, none, o14] H' _
      have hnD : H' Ln = some (.lst (names.map V.str)) := hol_le _ _ (s0 _ _ (hol_some.mpr ⟨by simp [nnp], hn8⟩))
      walk_at "gg"
      rename_i rE HE rE0 rE1 sE plE
      obtain ⟨s, ms, hs⟩ := str_at rE0 rE1
      refine g_ixM (ch_at sE (by simp [nnp]) hnD) hs ?_
      walk_at "gg"
      exact ⟨p, l, ns, L :: Lg :: Ln :: M, _, _, a, s, rfl, dom_draw sE plE dm', plE, Is.str _, Is.str _, fun r v H3 s3 pl3 is3 => kY _ _ _ (sE.trans s3) pl3 is3 ⟨_, rfl, rfl⟩⟩
    obtain ⟨regs, rfl, hregs⟩ := paired_ex (f := encR) (R' := fun s r => r.1 = s) (fun _ _ h => h) hout
    have hrn : regs.map (·.1) = nms "r" nb := by
      have : ∀ {l : List Str} {m : List (Str × List PyData)}, Paired (fun s r => r.1 = s) l m → m.map (·.1) = l := fun h => by
        induction h with
        | nil => rfl
        | cons h _ ih => rw [List.map_cons, h, ih]
      exact this hregs
    have rgl : regs.length = nb := by rw [← List.length_map (f := (·.1)) (as := regs), hrn, ln]
    have GA := G8.draw sA plA nnp ngp
    have dmA := GA.dm
    have hnA := ch_at sA (by simp [nnp]) hn8
    have is2A := is28.mono (weak1 (M := p :: Lg :: Ln :: M) (by simp) sA)
    clear is28 is48 pl8 dm8 G8
    walk_at "gg"
    rename_i rB HB rB0 rB1 sB plB
    have GB' := GA.draw sB plB nnp ngp
    have dmB := GB'.dm
    have hnB := ch_at sB (by simp [nnp]) hnA
    have isAB := isA.mono (weak1 (M := p :: Lg :: Ln :: M) (by simp) sB)
    have is2B := is2A.mono (weak1 (M := p :: Lg :: Ln :: M) (by simp) sB)
    refine w_rng1K (n := rB.toNat) (by omega) (by omega) ?_
    refine lc_draw (ls := List.range rB.toNat) (enc := fun i : Nat => PyData.int ((i : Nat) : Int)) (src_range (B := fun _ => none)) (fun _ _ => True) cu dmB plB (fun _ _ e => (nomatch e)) (by rw [List.length_range]; omega) (fun i a x L H' Y No hd cu' dm' sM s0 plD isx kY => ?_) (fun vC outs HC sC plC hout isC => ?_)
    · obtain rfl := isx.int_inv
      have hi := List.mem_range.mp (List.mem_of_getElem? hd)
      show gName 6 _ [some (.ref p), some (.int 5), some v2, some v4, some (.ref Ln), some (.ref Lg), _, some vA, none, o9, o10, o11, o12, none, o14] H' _
      have hnD : H' Ln = some (.lst (names.map V.str)) := hol_le _ _ (s0 _ _ (hol_some.mpr ⟨by simp [nnp], hnB⟩))
      walk_at "gg"
      refine g_str ⟨by omega, by omega⟩ ?_
      walk_at "gg"
      refine g_addS (add _ mp a (by omega)) ?_
      walk_at "gg"
      rename_i rE HE rE0 rE1 sE plE
      obtain ⟨s, ms, hs⟩ := str_at rE0 rE1
      have dmE := dom_draw sE plE dm'
      refine g_ixM (ch_at sE (by simp [nnp]) hnD) hs ?_
      walk_at "gg"
      rename_i vG HG sG isG
      exact kY _ _ _ (sE.trans (same_hol sG)) (plE.same sG) isG trivial
    have GC := GB'.draw sC plC nnp ngp
    obtain ⟨xg, hgC, rgC⟩ := GC.gt
    have an : Same (hol (p :: Lg :: Ln :: M) HC) (hol (p :: M) HC) := hol_anti (by intro a h; simp at h ⊢; rcases h with h | h <;> simp [h])
    have dmC : Dom (p :: M) HC := fun m hm => GC.dm m (by simp at hm ⊢; rcases hm with h | h <;> simp [h])
    have nlg : Lg ∉ p :: M := by simp [ngp, MM.1]
    have isgC : Is (hol (p :: M) HC) (.list (gs.map encG)) (.ref Lg) := .lst (hol_some.mpr ⟨nlg, hgC⟩) (rgC.mono an)
    have wkC : Same (hol (p :: Lg :: Ln :: M) HB) (hol (p :: Lg :: Ln :: M) HC) := weak1 (by simp) sC
    have isCC := isC.mono an
    have isRC := (isAB.mono wkC).mono an
    have is2C := (is2B.mono wkC).mono an
    have s0C : Same (hol [p] H) (hol [p] HC) := GC.s0.trans (hol_anti (by intro a h; simp at h ⊢; simp [h]))
    clear cu is2A is2B isA isAB isC dmA dmB plA plB GA GB' GC rgC an
    have cu := Sg.cur (p :: M)
    walk_at "gg"
    rename_i vI HI sI isI
    have dmI := dmC.mono sI
    refine ⟨p, l, ns, M, _, gs.map encG, rfl, dmI, plC.same sI, isgC.mono (same_hol sI), by rw [List.length_map]; omega, fun ds' v' HX sX plX pm isX => ?_⟩
    obtain ⟨gs', pg, rfl⟩ := perm_map pm gs rfl
    have dmX := dom_draw sX plX dmI
    walk_at "gg"
    refine k ⟨nms "i" na, gs', regs, .tuple outs⟩ _ _ (by walk_at "ex") (by walk_at "pl") (by assumption) (GS.sound ha hb (by omega) hok hrn pg) ?_ (hok.strs ha hb (by omega) hrn pg)
    show gs'.length ≤ 5
    rw [pg.length_eq]
    omega
theorem ok_circuit {P : Program} {w : World} {K : PySem.W.Frag} {mg : Str → Option Value} {base : Heap} {f : Addr} {fd : FuncData} (F : Fun K "_law_circuit" "_law_circuit" s_w_circuit f fd) (T : Bl mg) (c1 : Cal P w K mg base 2 "_law_draw" spDraw) (c2 : Cal P w K mg base 3 "_law_register" spRegister) (c3 : Cal P w K mg base 3 "_law_shuffled" spShuffled) (c4 : Cal P w K mg base 3 "_law_table" spTable) : FnOk P w K mg base CX0 4 f fd ["_law_pool_here", "_law_most"] spCircuit :=
  F.ok sc_w_circuit (fun vs H Q E h => by
    obtain ⟨_, _, _, _, rfl, _⟩ := h
    rfl) fun cdv A outer s H vs Q E hr h => ⟨_, dv_w_circuit T c1 c2 c3 c4 hr, r_circuit h⟩

end Sg
namespace Sg
open PySem PySem.Spec PyProof.Rows L2
local macro_rules | `(tactic| walk_at "ey") => `(tactic| first
  | exact Same.refl _
  | exact hol_le
  | assumption
  | (refine Same.on ?r (same_hol (H := ?b) ?h); (case h => assumption); walk_at "ey")
  | (refine Same.on ?r (Upd.hol (l := ?l) (H := ?b) ?h ?m); (case h => assumption); (case m => simp); walk_at "ey")
  | (refine Same.on ?r (weak1 (p := ?p) (A := ?b) ?n ?h); (case h => assumption); (case n => simp); walk_at "ey")
  | (refine Same.on (B := ?b) ?r ?h; (case h => assumption); walk_at "ey")
  | (refine Same.on ?r (same1 (A := ?b) ?h); (case h => assumption); walk_at "ey")
  | (refine Same.on ?r (same2 (A := ?b) ?h); (case h => assumption); walk_at "ey"))
local macro_rules | `(tactic| walk_at "ex") => `(tactic| first
  | exact Same.refl _
  | exact hol_le
  | assumption
  | (refine Same.on ?r (same_hol (H := ?b) ?h); (case h => assumption); walk_at "ex")
  | (refine Same.on ?r (Upd.hol (l := ?l) (H := ?b) ?h ?m); (case h => assumption); (case m => simp); walk_at "ex")
  | (refine Same.on ?r (weak1 (p := ?p) (A := ?b) ?n ?h); (case h => assumption); (case n => simp); walk_at "ex")
  | (refine Same.on (B := ?b) ?r ?h; (case h => assumption); walk_at "ex")
  | (refine Same.on ?r (same1 (A := ?b) ?h); (case h => assumption); walk_at "ex")
  | (refine Same.on ?r (same2 (A := ?b) ?h); (case h => assumption); walk_at "ex")
  | (refine Same.on ?r (hol_le (M := ?m)); walk_at "ey"))
local macro_rules | `(tactic| walk_at "dom") => `(tactic| first
  | assumption
  | exact Dom.nil
  | (refine Dom.mono (H := ?b) ?h ?d; (case h => assumption); walk_at "dom")
  | (refine dom_draw (p := ?p) (l := ?l) (ns := ?ns) (A := ?b) ?h ?c ?d; (case h => assumption); (case c => assumption); walk_at "dom")
  | (refine Dom.cons (o := ?o) ?h ?d; (case h => assumption); walk_at "dom")
  | (refine Dom.holm (A := ?b) (N := ?n) ?h ?d; (case h => assumption); walk_at "dom")
  | (refine Upd.dom (l := ?l) (H := ?b) (o := ?o) ?h ?e ?d; (case h => assumption); (case e => assumption); walk_at "dom"))
local macro_rules | `(tactic| walk_at "pl") => `(tactic| first
  | assumption
  | (refine Pl.same (A := ?b) ?s ?h; (case s => assumption); walk_at "pl"))
local macro_rules | `(tactic| walk_at "is") => `(tactic| first
  | assumption
  | exact Is.int _
  | exact Is.str _
  | exact Is.bl _
  | exact Is.non
  | (refine Is.mono (H := ?b) ?s ?h; (case h => assumption); walk_at "ex"))
local macro_rules | `(tactic| walk_at "isa") => `(tactic| first
  | exact IsA.nil
  | (refine IsA.cons (d := ?x) (ds := ?xs) ?a ?b; (case a => walk_at "is"); (case b => walk_at "isa"))
  | (refine IsA.mono (H := ?b) ?s ?h; (case h => assumption); walk_at "ex"))
local macro_rules | `(tactic| walk_at "at") => `(tactic| first
  | exact at0
  | exact at1
  | exact at2
  | exact at3
  | exact at4
  | (refine atM (a := ?a) ?h; (case h => assumption))
  | (refine atJ (a := ?a) ?h; (case h => assumption)))
local macro_rules | `(tactic| walk_at "sc") => `(tactic| (intro v hv; first
  | ((with_reducible have e := Is.int_inv hv); subst e; clear hv)
  | ((with_reducible have e := Is.str_inv hv); subst e; clear hv)
  | ((with_reducible have e := Is.bool_inv hv); subst e; clear hv)
  | ((with_reducible have e := Is.none_inv hv); subst e; clear hv)
  | skip))
local macro_rules | `(tactic| walk_at "g") => `(tactic| first
  | with_reducible refine g_seq ?_
  | with_reducible refine g_asg ?_
  | with_reducible refine g_ret ?_
  | with_reducible refine g_drop ?_
  | with_reducible refine g_ifS ?_
  | with_reducible refine g_next ?_
  | with_reducible refine g_break ?_
  | with_reducible refine g_for ?_
  | with_reducible refine g_op ?_
  | ((with_reducible refine g_var (v := ?v) ?h ?k); (case h => exact rfl))
  | with_reducible refine g_c ?_
  | with_reducible refine g_I0 ?_
  | with_reducible refine g_U ?_
  | with_reducible refine g_cons ?_
  | with_reducible refine g_nil ?_
  | with_reducible refine g_cb ?_
  | with_reducible refine g_call ?_
  | with_reducible refine g_test ?_
  | with_reducible refine g_bl ?_
  | with_reducible refine g_int ?_
  | with_reducible refine g_B ?_
  | ((with_reducible refine g_wipe ?e ?k); (case e => exact rfl))
  | with_reducible refine g_iteT ?_
  | with_reducible refine g_iteF ?_
  | with_reducible refine g_iteNT ?_
  | with_reducible refine g_iteNF ?_
  | with_reducible refine g_andK ?_
  | with_reducible refine g_orK ?_
  | with_reducible refine g_notK ?_
  | ((with_reducible refine w_tupK (B := ?b) (ds := ?ds) ?s ?h ?k); (case h => assumption); (case s => walk_at "ex"); intro a S)
  | ((with_reducible refine w_listK (B := ?b) (ds := ?ds) ?s ?h ?k); (case h => assumption); (case s => walk_at "ex"); intro a S)
  | ((with_reducible refine w_enumK (B := ?b) (ds := ?ds) ?s ?h ?k); (case h => assumption); (case s => walk_at "ex"); intro a S)
  | ((with_reducible refine w_enumTK (B := ?b) (ds := ?ds) ?s ?h ?k); (case h => assumption); (case s => walk_at "ex"); intro a S)
  | ((with_reducible refine w_zipK (B := ?b) (ds := ?ds) (es := ?es) ?s ?h ?h' ?k); (case h => assumption); (case h' => walk_at "is"); (case s => walk_at "ex"); intro a b S)
  | ((with_reducible refine w_zipMK (B := ?b) (ds := ?ds) (es := ?es) ?s ?h ?h' ?k); (case h => assumption); (case h' => walk_at "is"); (case s => walk_at "ex"); intro a b S)
  | ((with_reducible refine w_zipTK (B := ?b) (ds := ?ds) (es := ?es) ?s ?h ?h' ?k); (case h => assumption); (case h' => walk_at "is"); (case s => walk_at "ex"); intro a b S)
  | ((with_reducible refine g_listOf (M := ?m) (ds := ?ds) ?c ?d ?h ?k); (case c => assumption); (case d => walk_at "dom"); (case h => first | (refine Or.inl ?_; walk_at "is") | (refine Or.inr ?_; walk_at "is")); intro v H' hs hv)
  | ((with_reducible refine g_tupOf (M := ?m) (ds := ?ds) ?c ?d ?h ?k); (case c => assumption); (case d => walk_at "dom"); (case h => walk_at "is"); intro v H' hs hv)
  | ((with_reducible refine g_tupK (M := ?m) (ds := ?ds) ?c ?d ?h ?l ?k); (case c => assumption); (case d => walk_at "dom"); (case h => walk_at "isa"); (case l => (simp only [List.length_cons, List.length_nil]; omega)); intro v H' hs hv)
  | ((with_reducible refine g_tupT (M := ?m) (ds := ?ds) ?c ?h ?e ?k); (case c => assumption); (case h => walk_at "is"); (case e => rfl); intro xs hxs)
  | ((with_reducible refine g_fldK (C := ?c) (dx := ?dx) (fs := ?fs) (v := ?v) ?h ?cl ?na ?l ?k); (case h => assumption); (case cl => assumption); (case na => assumption); (case l => first | assumption | exact rfl))
  | ((with_reducible refine g_fldM (C := ?c) (dx := ?dx) (fs := ?fs) ?h ?cl ?na ?hl ?k); (case h => assumption); (case cl => assumption); (case na => assumption); (case hl => exact Nat.le_of_ble_eq_true rfl); intro H' u hx)
  | ((with_reducible refine g_ixM (xs := ?xs) (v := ?v) ?h ?e ?k); (case h => assumption); (case e => first | exact at0 | exact at1 | exact at2 | exact at3 | exact at4))
  | ((with_reducible refine g_lenM (xs := ?xs) ?h ?k); (case h => assumption))
  | ((with_reducible refine g_mul ?h ?k); (case h => decide))
  | ((with_reducible refine g_mod ?h ?k); (case h => first | decide | assumption | omega))
  | ((with_reducible refine g_div ?h ?l ?k); (case h => first | decide | assumption | omega); (case l => first | decide | assumption | omega))
  | ((with_reducible refine g_subM (xs := ?xs) (k := ?n) ?h ?j ?k); (case h => assumption); (case j => exact rfl); intro H' u hp)
  | ((with_reducible refine g_isi (t := ?t) (b := ?b) ?ty ?e ?k); (case ty => assumption); (case e => first | exact kit_NoneType_tuple | exact kit_NoneType_list | exact kit_NoneType_bool | exact kit_NoneType_int | exact kit_int_tuple | exact kit_int_list | exact kit_int_bool | exact kit_int_int | exact kit_list_tuple | exact kit_list_list | exact kit_list_bool | exact kit_list_int | exact kit_tuple_tuple | exact kit_tuple_list | exact kit_tuple_bool | exact kit_tuple_int))
  | ((with_reducible refine g_draw (l := ?l) (ns := ?ns) ?a ?b ?h ?k); (case a => first | decide | omega); (case b => first | decide | omega); (case h => walk_at "pl"); intro r H' h0 h1 hs pl)
  | ((with_reducible refine g_dgetS (v := ?v) (kvs := ?kvs) ?h ?e ?k); (case h => assumption); (case e => assumption))
  | with_reducible refine g_and ?_
  | with_reducible refine w_keys ?_
  | with_reducible refine w_rng3 ?_
  | with_reducible refine w_items ?_
  | with_reducible refine g_or ?_
  | with_reducible refine g_not ?_
  | with_reducible refine g_yes ?_
  | with_reducible refine g_tru ?_
  | with_reducible refine g_fld ?_
  | with_reducible refine g_meth ?_
  | with_reducible refine g_make ?_
  | with_reducible refine g_tupE ?_
  | with_reducible refine g_lstE ?_
  | with_reducible refine g_sl ?_
  | with_reducible refine g_part ?_
  | with_reducible refine g_nopart ?_
  | with_reducible refine g_bm ?_
  | with_reducible refine g_bm0 ?_
  | with_reducible refine g_if ?_
  | with_reducible refine g_un ?_
  | with_reducible refine g_isN ?_
  | with_reducible refine g_notN ?_
  | with_reducible refine g_andV ?_
  | with_reducible refine g_orV ?_
  | with_reducible refine g_notV ?_
  | with_reducible refine g_lc ?_
  | with_reducible refine g_dget ?_
  | with_reducible refine g_din ?_
  | with_reducible refine g_dnotin ?_
  | with_reducible refine g_fldS ?_
  | with_reducible refine g_dput ?_
  | with_reducible refine g_sub ?_
  | with_reducible refine g_consT ?_
  | with_reducible refine g_nilT ?_
  | ((with_reducible refine g_name (σ' := ?s) ?h ?k); (case h => (dsimp only [List.set]; exact rfl)))
  | with_reducible refine w_list ?_
  | with_reducible refine w_tup ?_
  | with_reducible refine w_rng1 ?_
  | with_reducible refine w_enumT ?_
  | with_reducible refine w_enum ?_
  | with_reducible refine w_zip ?_
  | with_reducible refine w_zipM ?_
  | with_reducible refine w_zipA ?_
  | with_reducible refine w_rng ?_
  | with_reducible refine g_int1 ?_
  | ((with_reducible refine g_ixT (M := ?m) (ds := ?ds) (d := ?d) ?c ?h ?e ?k); (case c => assumption); (case h => walk_at "is"); (case e => walk_at "at"); walk_at "sc")
  | ((with_reducible refine g_ixL (M := ?m) (ds := ?ds) (d := ?d) ?c ?h ?e ?k); (case c => assumption); (case h => walk_at "is"); (case e => walk_at "at"); walk_at "sc")
  | ((with_reducible refine g_lenL (M := ?m) (ds := ?ds) ?c ?h ?k); (case c => assumption); (case h => walk_at "is"))
  | ((with_reducible refine g_lenT (M := ?m) (ds := ?ds) ?c ?h ?k); (case c => assumption); (case h => walk_at "is")))
local macro_rules | `(tactic| walk_at "len") => `(tactic| ((try simp only [List.length_map, List.length_append, List.length_cons, List.length_nil, List.length_range, List.length_zip]); omega))
local macro_rules | `(tactic| walk_at "gg") => `(tactic| repeat walk_at "g")
theorem eqv_nil : ∀ l : List PyData, PyData.eqv (.list l) (.list []) = l.isEmpty
  | [] => by simp [PyData.eqv, PyData.eqvAll]
  | a :: l => by simp [PyData.eqv, PyData.eqvAll]
theorem cmp_str {s : Str} (h : PyData.strOk s = true) : Cmp 0 (.str s) := ⟨by simp [PyData.canLay0, h], by simp [PyData.depth]⟩
theorem Cmp.strs : ∀ {l : List Str}, (∀ s ∈ l, PyData.strOk s = true) → Cmp 1 (.list (l.map PyData.str))
  | [], _ => Cmp.lst Cmp.int []
  | s :: l, h => by
    have ih := Cmp.strs (l := l) fun x hx => h x (List.mem_cons_of_mem _ hx)
    have h1 := h s List.mem_cons_self
    refine ⟨?_, ?_⟩
    · have := ih.1
      simp only [PyData.canLay0, List.map_cons, PyData.canLayAll0] at this ⊢
      rw [h1, this]
      rfl
    · have := ih.2
      simp only [PyData.depth, List.map_cons, PyData.depthAll] at this ⊢
      omega
def StrsOk (c : Circ) : Prop := ∀ g ∈ c.gates, ∀ n ∈ g.nets, PyData.strOk n = true
theorem strs_of {c : Circ} (S : Sound c) (h : ∀ n ∈ nets c, PyData.strOk n = true) : StrsOk c := fun g hg n hn => by
  obtain ⟨r, hr⟩ := S.rank
  refine h n ?_
  unfold nets
  rcases hr g hg n hn with q | ⟨q, _⟩
  · exact List.mem_append_left _ q
  · exact List.mem_append_right _ q
def spOrder : Sp := SpF (fun c : Circ => [encC c]) (fun c => Sound c ∧ StrsOk c) fun c d => ∃ ord, Ord c ord ∧ ord.length = c.gates.length ∧ d = encO ord
theorem ixOf_first {s : Str} : ∀ {l : List Gate} {j : Nat}, ixOf s l = some j → ∀ m g, m < j → l[m]? = some g → g.name ≠ s
  | [], _, h => by simp [ixOf] at h
  | g :: l, j, h => by
    unfold ixOf at h
    by_cases e : g.name = s
    · rw [if_pos e] at h
      cases h
      intro m g' hm
      exact absurd hm (Nat.not_lt_zero _)
    · rw [if_neg e] at h
      obtain ⟨j', hj', rfl⟩ := Option.map_eq_some_iff.mp h
      intro m g' hm hg
      cases m with
      | zero =>
        simp at hg
        rw [← hg]
        exact e
      | succ m => exact ixOf_first hj' m g' (by omega) (by simpa using hg)
theorem ixOf_iff {s : Str} {l : List Gate} : s ∈ l.map (·.name) ↔ ∃ j, ixOf s l = some j := by
  constructor
  · exact ixOf_mem
  · rintro ⟨j, h⟩
    obtain ⟨g, h1, h2⟩ := ixOf_some h
    exact List.mem_map.mpr ⟨g, List.mem_of_getElem? h1, h2⟩
theorem eqV_str {z s : Str} : eqV (.str z) (.str s) = decide (z = s) := by
  show (z == s) = decide (z = s)
  by_cases q : z = s
  · simp [q]
  · rw [decide_eq_false q]; exact beq_eq_false_iff_ne.mpr q
section
variable {K : PySem.W.Frag} {H : Hp} {Q : VK} {x : V} {M : List Addr} {ds : List PyData} {P : Prop}
theorem g_tyI (cu : Cur M) (h : Is (hol M H) (.list ds) x) (k : P) : tyV K "list" x H ∧ P := by
  obtain ⟨a, xs, rfl, h1, _⟩ := h.lst_inv
  exact ⟨.inl ⟨rfl, xs, .inl (.inl (hol_le _ _ h1))⟩, k⟩
theorem g_idx {gs : List Gate} {s : Str} {j : Nat} (cu : Cur M) (h : Is (hol M H) (.list ((gs.map (·.name)).map PyData.str)) x) (hj : ixOf s gs = some j) (k : Q (.int ((j : Nat) : Int)) H) : rIndex K x [.str s] H Q := by
  obtain ⟨a, xs, rfl, h1, h2⟩ := h.lst_inv
  rw [h2.strs] at h1
  obtain ⟨g, h3, h4⟩ := ixOf_some hj
  refine ⟨a, _, .str s, j, .str g.name, rfl, rfl, .inl (.inl (hol_le _ _ h1)), rfl, flat_strs _, by rw [List.getElem?_map, List.getElem?_map, h3]; rfl, by rw [eqV_str, h4]; exact decide_eq_true rfl, fun m z hm hz => ?_, k⟩
  rw [List.getElem?_map, List.getElem?_map] at hz
  obtain ⟨g', h5, h6⟩ := Option.map_eq_some_iff.mp (by rwa [Option.map_map] at hz)
  subst h6
  show eqV (.str g'.name) (.str s) = false
  rw [eqV_str]
  exact decide_eq_false (ixOf_first hj m g' hm h5)
end
theorem ord_ints (ord : List Nat) : (ord.map fun i => V.int ((i : Nat) : Int)) = (ord.map fun i => ((i : Nat) : Int)).map V.int := by rw [List.map_map]; rfl
theorem mem_ints {ord : List Nat} {k : Nat} : ((k : Nat) : Int) ∈ (ord.map fun i => ((i : Nat) : Int)) ↔ k ∈ ord := by
  constructor
  · intro h
    obtain ⟨i, hi, e⟩ := List.mem_map.mp h
    have : i = k := by omega
    rw [← this]
    exact hi
  · intro h
    exact List.mem_map.mpr ⟨k, h, rfl⟩
def waitF (c : Circ) (ord : List Nat) (s : Str) : Option PyData := match ixOf s c.gates with
  | some j => if j ∈ ord then none else some (.str s)
  | none => none
theorem wait_nil {c : Circ} {ord : List Nat} {g : Gate} : (g.nets.filterMap (waitF c ord)).isEmpty = true ↔ ∀ j ∈ waits c g, j ∈ ord := by
  rw [List.isEmpty_iff, List.filterMap_eq_nil_iff]
  unfold waits
  constructor
  · intro h j hj
    obtain ⟨n, hn, e⟩ := List.mem_filterMap.mp hj
    have := h n hn
    unfold waitF at this
    rw [e] at this
    by_cases q : j ∈ ord
    · exact q
    · simp [q] at this
  · intro h n hn
    unfold waitF
    cases e : ixOf n c.gates with
    | none => rfl
    | some j =>
      have := h j (List.mem_filterMap.mpr ⟨n, hn, e⟩)
      simp [this]
theorem r_order {K : PySem.W.Frag} {vs : List V} {H : Hp} {Q : VK} {E : XK} {n b c : L2.St → Hp → Prop} (h : spOrder vs H Q E) : rd_w_order K ⟨n, Q, b, c⟩ (start N_w_order vs) H := by
  obtain ⟨M, ci, dm, ⟨S, SO⟩, hv, k⟩ := h
  obtain ⟨v, r, rfl, is1, hr⟩ := hv.cons_inv
  obtain rfl := hr.nil_inv
  have few2 := S.few2
  have cu := Sg.cur M
  show rd_w_order K _ [some v, none, none, none, none, none, none, none] H
  unfold rd_w_order
  walk_at "gg"
  refine lc_map ‹Src _ _ (ci.gates.map encG)› (fun g : Gate => some (.str g.name)) cu dm (Same.refl _) (by omega) (fun i a x L H' Y No hd cu dm' sM s0 isx kY kN => ?_) (fun v1 H1 s1 is2 => ?_)
  · show gName 5 x [some v, none, none, none, none, none, none, none] H' _
    walk_at "gg"
    exact kY _ _ _ (Same.refl _) (Is.str _) rfl
  rw [fm_some] at is2
  have e2 : (ci.gates.map fun g : Gate => PyData.str g.name) = (ci.gates.map (·.name)).map PyData.str := by rw [List.map_map]; rfl
  rw [e2] at is2
  have dm1 := dm.mono s1
  have is11 := is1.mono (same_hol s1)
  clear is1
  walk_at "gg"
  refine g_lstM cu (Nat.le_of_ble_eq_true rfl) (fun Ld H2 hLd s2 hd2 s2' s2'' => ?_)
  have nLM : Ld ∉ M := dm1.not hLd
  have dm2 := dm1.mono s2
  have is12 := is11.mono s2'
  have is22 := is2.mono s2'
  clear cu is11 is2
  have cu := Sg.cur (Ld :: M)
  walk_at "gg"
  refine w_rng1K (n := ci.gates.length) (by rw [List.length_map, List.length_map]) (by omega) ?_
  refine for_map (l := List.range ci.gates.length) (enc := fun i : Nat => PyData.int ((i : Nat) : Int)) (src_range (B := fun _ => none)) (fun t σ H' => ∃ (ord : List Nat) (o3 o4 o6 : Option V), σ = [some v, some v1, some (.ref Ld), o3, o4, none, o6, none] ∧ Ord ci ord ∧ ord.length = t ∧ H' Ld = some (listO ord) ∧ Same H (hol [Ld] H') ∧ Same (hol (Ld :: M) H2) (hol (Ld :: M) H') ∧ Dom (Ld :: M) H')
    ⟨[], none, none, none, rfl, .nil ci, rfl, hd2, (s1.trans s2''), Same.refl _, .cons hd2 dm2⟩ (fun j σ H' q => ?_) (fun t a y σ H6 H7 ha q s67 isx => ?_) (fun σ H3 q => ?_)
  · exact fun _ _ e => (nomatch e)
  · obtain ⟨ord, o3, o4, o6, rfl, hord, ol, hd6, s06, s26, dm6⟩ := q
    obtain rfl := (isx [] .nil (fun _ _ e => (nomatch e))).int_inv
    have tl := (List.getElem?_eq_some_iff.mp ha).1
    rw [List.length_range] at tl
    have hd7 := s67 _ _ hd6
    have s27 := s26.trans (same_hol s67)
    have dm7 := dm6.mono s67
    have s07 := s06.trans (same_hol (M := [Ld]) s67)
    have is27 := is22.mono s27
    walk_at "gg"
    unfold b2_w_order
    walk_at "gg"
    refine w_rng1K (n := ci.gates.length) (by rw [List.length_map, List.length_map]) (by omega) ?_
    clear is27
    refine for_map (l := List.range ci.gates.length) (enc := fun i : Nat => PyData.int ((i : Nat) : Int)) (src_range (B := fun _ => none)) (fun i σ H' => ∃ (o4 o6 : Option V), σ = [some v, some v1, some (.ref Ld), some (.int ((a : Nat) : Int)), o4, none, o6, none] ∧ Same H7 H' ∧ ∀ j, j < i → ¬ Ready ci ord j)
      ⟨_, _, rfl, Same.refl _, fun j hj => absurd hj (Nat.not_lt_zero _)⟩ (fun j σ H' q => ?_) (fun i a' y σ H8 H9 ha' q s89 isy => ?_) (fun σ H8 q => ?_)
    · exact fun _ _ e => (nomatch e)
    · obtain ⟨o4, o6, rfl, s78, hno⟩ := q
      obtain rfl := (isy [] .nil (fun _ _ e => (nomatch e))).int_inv
      obtain ⟨il, ie⟩ := List.getElem?_eq_some_iff.mp ha'
      rw [List.length_range] at il
      rw [List.getElem_range] at ie
      subst ie
      obtain ⟨g, hg⟩ : ∃ g, ci.gates[i]? = some g := ⟨_, List.getElem?_eq_getElem il⟩
      have gp := S.pins g (List.mem_of_getElem? hg)
      have s79 := s78.trans s89
      have hd9 := s79 _ _ hd7
      have dm9 := dm7.mono s79
      have is19 := is12.mono (s27.trans (same_hol s79))
      have is29 := is22.mono (s27.trans (same_hol s79))
      walk_at "gg"
      unfold b1_w_order
      walk_at "gg"
      refine lc_map ‹Src _ _ (g.nets.map PyData.str)› (waitF ci ord) cu dm9 (Same.refl _) (by omega) (fun i' s x L H' Y No hd' cu' dm' sM s0 isx kY kN => ?_) (fun v6 HA sA is6 => ?_)
      · obtain rfl := isx.str_inv
        show gName 7 _ [some v, some v1, some (.ref Ld), some (.int ((a : Nat) : Int)), some (.int ((i : Nat) : Int)), none, _, none] H' _
        have is2' := is29.mono sM
        have hd' : H' Ld = some (listO ord) := hol_le _ _ (s0 _ _ hd9)
        walk_at "gg"
        refine g_inS cu' is2' ?_
        walk_at "gg"
        cases e : ixOf s ci.gates with
        | none =>
          rw [decide_eq_false (fun m => by obtain ⟨j, hj⟩ := ixOf_iff.mp m; rw [e] at hj; cases hj)]
          walk_at "gg"
          exact kN _ (Same.refl _) (by unfold waitF; rw [e])
        | some j =>
          rw [decide_eq_true (ixOf_iff.mpr ⟨j, e⟩)]
          walk_at "gg"
          refine g_tyI cu' is2' ?_
          walk_at "gg"
          refine g_idx cu' is2' e ?_
          walk_at "gg"
          unfold listO at hd'
          rw [ord_ints] at hd'
          refine g_niM hd' ?_
          walk_at "gg"
          by_cases q : j ∈ ord
          · rw [decide_eq_true (mem_ints.mpr q)]
            walk_at "gg"
            exact kN _ (Same.refl _) (by unfold waitF; rw [e]; simp [q])
          · rw [decide_eq_false (fun m => q (mem_ints.mp m))]
            walk_at "gg"
            exact kY _ _ _ (Same.refl _) (Is.str _) (by unfold waitF; rw [e]; simp [q])
      have hdA := sA _ _ hd9
      have dmA := dm9.mono sA
      clear is19 is29
      walk_at "gg"
      have hdA' := hdA
      unfold listO at hdA'
      rw [ord_ints] at hdA'
      refine g_niM hdA' ?_
      walk_at "gg"
      have skip : ∀ H', Same HA H' → ¬ Ready ci ord i → ∃ (o4 o6' : Option V), [some v, some v1, some (.ref Ld), some (.int ((a : Nat) : Int)), some (.int ((i : Nat) : Int)), none, some v6, none] = [some v, some v1, some (.ref Ld), some (.int ((a : Nat) : Int)), o4, none, o6', none] ∧ Same H7 H' ∧ ∀ j, j < i + 1 → ¬ Ready ci ord j := fun H' s' hn => ⟨_, _, rfl, (s79.trans sA).trans s', fun j hj => by
        by_cases z : j = i
        · rw [z]; exact hn
        · exact hno j (by omega)⟩
      by_cases q : i ∈ ord
      · rw [decide_eq_true (mem_ints.mpr q)]
        walk_at "gg"
        exact skip _ (Same.refl _) (fun z => z.1 q)
      · rw [decide_eq_false (fun m => q (mem_ints.mp m))]
        walk_at "gg"
        refine g_lstK cu dmA (ds := []) (xs := []) .nil (by decide) (fun vB HB sB isB => ?_)
        have is6B := is6.mono (same_hol sB)
        have cm : Cmp 1 (.list (g.nets.filterMap (waitF ci ord))) := by
          have e : g.nets.filterMap (waitF ci ord) = (g.nets.filter fun s => (waitF ci ord s).isSome).map PyData.str := by
            have : ∀ l : List Str, l.filterMap (waitF ci ord) = (l.filter fun s => (waitF ci ord s).isSome).map PyData.str := fun l => by
              induction l with
              | nil => rfl
              | cons s l ih =>
                rw [List.filterMap_cons, List.filter_cons]
                cases z : waitF ci ord s with
                | none => simpa using ih
                | some d =>
                  have : d = .str s := by
                    unfold waitF at z
                    cases y : ixOf s ci.gates with
                    | none => rw [y] at z; cases z
                    | some j =>
                      rw [y] at z
                      dsimp only at z
                      split at z
                      · cases z
                      · cases z; rfl
                  simp [ih, this]
            exact this g.nets
          rw [e]
          exact Cmp.strs fun s hs => SO g (List.mem_of_getElem? hg) s (List.mem_filter.mp hs).1
        refine g_eqD (n := 1) (m := 1) cu is6B isB cm (Cmp.lst Cmp.int []) (by decide) (by decide) ?_
        rw [eqv_nil]
        walk_at "gg"
        cases w : (g.nets.filterMap (waitF ci ord)).isEmpty with
        | false =>
          walk_at "gg"
          refine skip _ sB (fun z => ?_)
          obtain ⟨_, g', hg', hw⟩ := z
          rw [hg] at hg'
          cases hg'
          rw [wait_nil.mpr hw] at w
          cases w
        | true =>
          walk_at "gg"
          have hdB := sB _ _ hdA
          refine g_ty hdB ?_
          walk_at "gg"
          refine g_app hdB (by rw [List.length_map]; omega) (fun HC uC hdC => ?_)
          have rdy : Ready ci ord i := ⟨q, g, hg, wait_nil.mp w⟩
          have s7B : Same H7 HB := (s79.trans sA).trans sB
          walk_at "gg"
          refine ⟨ord ++ [i], _, _, _, rfl, hord.snoc rdy, by rw [List.length_append, List.length_singleton, ol], ?_, (s07.trans (same_hol (M := [Ld]) s7B)).trans (uC.hol (by simp)), (s27.trans (same_hol s7B)).trans (uC.hol (by simp)), uC.dom hdC (dm7.mono s7B)⟩
          unfold listO
          rw [hdC, List.map_append]
          rfl
    · obtain ⟨o4, o6, rfl, s78, hno⟩ := q
      obtain ⟨j, hj⟩ := hord.next S (by omega)
      have hjl : j < ci.gates.length := by
        obtain ⟨_, g, hg, _⟩ := hj
        exact (List.getElem?_eq_some_iff.mp hg).1
      exact absurd hj (hno j (by rw [List.length_range]; exact hjl))
  · obtain ⟨ord, o3, o4, o6, rfl, hord, ol, hd6, s06, s26, dm6⟩ := q
    rw [List.length_range] at ol
    walk_at "gg"
    exact k _ _ _ ⟨ord, hord, ol, rfl⟩ (s06.trans hol_le) (.lst (hol_some.mpr ⟨nLM, hd6⟩) (IsA.of_nats ord))
theorem ok_order {P : Program} {w : World} {K : PySem.W.Frag} {mg : Str → Option Value} {base : Heap} {f : Addr} {fd : FuncData} (F : Fun K "_law_order" "_law_order" s_w_order f fd) (T : Bl mg) : FnOk P w K mg base CX0 1 f fd ["_law_circuit_here"] spOrder :=
  F.ok sc_w_order (fun vs H Q E h => SpF.len (n := 1) (fun _ => rfl) h) fun cdv A outer s H vs Q E hr h => ⟨_, dv_w_order T hr, r_order h⟩

end Sg
namespace Sg
open PySem PySem.Spec PyProof.Rows L2
local macro_rules | `(tactic| walk_at "ey") => `(tactic| first
  | exact Same.refl _
  | exact hol_le
  | assumption
  | (refine Same.on ?r (same_hol (H := ?b) ?h); (case h => assumption); walk_at "ey")
  | (refine Same.on ?r (Upd.hol (l := ?l) (H := ?b) ?h ?m); (case h => assumption); (case m => simp); walk_at "ey")
  | (refine Same.on ?r (weak1 (p := ?p) (A := ?b) ?n ?h); (case h => assumption); (case n => simp); walk_at "ey")
  | (refine Same.on (B := ?b) ?r ?h; (case h => assumption); walk_at "ey")
  | (refine Same.on ?r (same1 (A := ?b) ?h); (case h => assumption); walk_at "ey")
  | (refine Same.on ?r (same2 (A := ?b) ?h); (case h => assumption); walk_at "ey"))
local macro_rules | `(tactic| walk_at "ex") => `(tactic| first
  | exact Same.refl _
  | exact hol_le
  | assumption
  | (refine Same.on ?r (same_hol (H := ?b) ?h); (case h => assumption); walk_at "ex")
  | (refine Same.on ?r (Upd.hol (l := ?l) (H := ?b) ?h ?m); (case h => assumption); (case m => simp); walk_at "ex")
  | (refine Same.on ?r (weak1 (p := ?p) (A := ?b) ?n ?h); (case h => assumption); (case n => simp); walk_at "ex")
  | (refine Same.on (B := ?b) ?r ?h; (case h => assumption); walk_at "ex")
  | (refine Same.on ?r (same1 (A := ?b) ?h); (case h => assumption); walk_at "ex")
  | (refine Same.on ?r (same2 (A := ?b) ?h); (case h => assumption); walk_at "ex")
  | (refine Same.on ?r (hol_le (M := ?m)); walk_at "ey"))
local macro_rules | `(tactic| walk_at "dom") => `(tactic| first
  | assumption
  | exact Dom.nil
  | (refine Dom.mono (H := ?b) ?h ?d; (case h => assumption); walk_at "dom")
  | (refine dom_draw (p := ?p) (l := ?l) (ns := ?ns) (A := ?b) ?h ?c ?d; (case h => assumption); (case c => assumption); walk_at "dom")
  | (refine Dom.cons (o := ?o) ?h ?d; (case h => assumption); walk_at "dom")
  | (refine Dom.holm (A := ?b) (N := ?n) ?h ?d; (case h => assumption); walk_at "dom")
  | (refine Upd.dom (l := ?l) (H := ?b) (o := ?o) ?h ?e ?d; (case h => assumption); (case e => assumption); walk_at "dom"))
local macro_rules | `(tactic| walk_at "pl") => `(tactic| first
  | assumption
  | (refine Pl.same (A := ?b) ?s ?h; (case s => assumption); walk_at "pl"))
local macro_rules | `(tactic| walk_at "is") => `(tactic| first
  | assumption
  | exact Is.int _
  | exact Is.str _
  | exact Is.bl _
  | exact Is.non
  | (refine Is.mono (H := ?b) ?s ?h; (case h => assumption); walk_at "ex"))
local macro_rules | `(tactic| walk_at "isa") => `(tactic| first
  | exact IsA.nil
  | (refine IsA.cons (d := ?x) (ds := ?xs) ?a ?b; (case a => walk_at "is"); (case b => walk_at "isa"))
  | (refine IsA.mono (H := ?b) ?s ?h; (case h => assumption); walk_at "ex"))
local macro_rules | `(tactic| walk_at "at") => `(tactic| first
  | exact at0
  | exact at1
  | exact at2
  | exact at3
  | exact at4
  | (refine atM (a := ?a) ?h; (case h => assumption))
  | (refine atJ (a := ?a) ?h; (case h => assumption)))
local macro_rules | `(tactic| walk_at "sc") => `(tactic| (intro v hv; first
  | ((with_reducible have e := Is.int_inv hv); subst e; clear hv)
  | ((with_reducible have e := Is.str_inv hv); subst e; clear hv)
  | ((with_reducible have e := Is.bool_inv hv); subst e; clear hv)
  | ((with_reducible have e := Is.none_inv hv); subst e; clear hv)
  | skip))
local macro_rules | `(tactic| walk_at "g") => `(tactic| first
  | with_reducible refine g_seq ?_
  | with_reducible refine g_asg ?_
  | with_reducible refine g_ret ?_
  | with_reducible refine g_drop ?_
  | with_reducible refine g_ifS ?_
  | with_reducible refine g_next ?_
  | with_reducible refine g_break ?_
  | with_reducible refine g_for ?_
  | with_reducible refine g_op ?_
  | ((with_reducible refine g_var (v := ?v) ?h ?k); (case h => exact rfl))
  | with_reducible refine g_c ?_
  | with_reducible refine g_I0 ?_
  | with_reducible refine g_U ?_
  | with_reducible refine g_cons ?_
  | with_reducible refine g_nil ?_
  | with_reducible refine g_cb ?_
  | with_reducible refine g_call ?_
  | with_reducible refine g_test ?_
  | with_reducible refine g_bl ?_
  | with_reducible refine g_int ?_
  | with_reducible refine g_B ?_
  | ((with_reducible refine g_wipe ?e ?k); (case e => exact rfl))
  | with_reducible refine g_iteT ?_
  | with_reducible refine g_iteF ?_
  | with_reducible refine g_iteNT ?_
  | with_reducible refine g_iteNF ?_
  | with_reducible refine g_andK ?_
  | with_reducible refine g_orK ?_
  | with_reducible refine g_notK ?_
  | ((with_reducible refine w_tupK (B := ?b) (ds := ?ds) ?s ?h ?k); (case h => assumption); (case s => walk_at "ex"); intro a S)
  | ((with_reducible refine w_listK (B := ?b) (ds := ?ds) ?s ?h ?k); (case h => assumption); (case s => walk_at "ex"); intro a S)
  | ((with_reducible refine w_enumK (B := ?b) (ds := ?ds) ?s ?h ?k); (case h => assumption); (case s => walk_at "ex"); intro a S)
  | ((with_reducible refine w_enumTK (B := ?b) (ds := ?ds) ?s ?h ?k); (case h => assumption); (case s => walk_at "ex"); intro a S)
  | ((with_reducible refine w_zipK (B := ?b) (ds := ?ds) (es := ?es) ?s ?h ?h' ?k); (case h => assumption); (case h' => walk_at "is"); (case s => walk_at "ex"); intro a b S)
  | ((with_reducible refine w_zipMK (B := ?b) (ds := ?ds) (es := ?es) ?s ?h ?h' ?k); (case h => assumption); (case h' => walk_at "is"); (case s => walk_at "ex"); intro a b S)
  | ((with_reducible refine w_zipTK (B := ?b) (ds := ?ds) (es := ?es) ?s ?h ?h' ?k); (case h => assumption); (case h' => walk_at "is"); (case s => walk_at "ex"); intro a b S)
  | ((with_reducible refine g_listOf (M := ?m) (ds := ?ds) ?c ?d ?h ?k); (case c => assumption); (case d => walk_at "dom"); (case h => first | (refine Or.inl ?_; walk_at "is") | (refine Or.inr ?_; walk_at "is")); intro v H' hs hv)
  | ((with_reducible refine g_tupOf (M := ?m) (ds := ?ds) ?c ?d ?h ?k); (case c => assumption); (case d => walk_at "dom"); (case h => walk_at "is"); intro v H' hs hv)
  | ((with_reducible refine g_tupK (M := ?m) (ds := ?ds) ?c ?d ?h ?l ?k); (case c => assumption); (case d => walk_at "dom"); (case h => walk_at "isa"); (case l => (simp only [List.length_cons, List.length_nil]; omega)); intro v H' hs hv)
  | ((with_reducible refine g_tupT (M := ?m) (ds := ?ds) ?c ?h ?e ?k); (case c => assumption); (case h => walk_at "is"); (case e => rfl); intro xs hxs)
  | ((with_reducible refine g_fldK (C := ?c) (dx := ?dx) (fs := ?fs) (v := ?v) ?h ?cl ?na ?l ?k); (case h => assumption); (case cl => assumption); (case na => assumption); (case l => first | assumption | exact rfl))
  | ((with_reducible refine g_fldM (C := ?c) (dx := ?dx) (fs := ?fs) ?h ?cl ?na ?hl ?k); (case h => assumption); (case cl => assumption); (case na => assumption); (case hl => exact Nat.le_of_ble_eq_true rfl); intro H' u hx)
  | ((with_reducible refine g_ixM (xs := ?xs) (v := ?v) ?h ?e ?k); (case h => assumption); (case e => first | exact at0 | exact at1 | exact at2 | exact at3 | exact at4))
  | ((with_reducible refine g_lenM (xs := ?xs) ?h ?k); (case h => assumption))
  | ((with_reducible refine g_mul ?h ?k); (case h => decide))
  | ((with_reducible refine g_mod ?h ?k); (case h => first | decide | assumption | omega))
  | ((with_reducible refine g_div ?h ?l ?k); (case h => first | decide | assumption | omega); (case l => first | decide | assumption | omega))
  | ((with_reducible refine g_subM (xs := ?xs) (k := ?n) ?h ?j ?k); (case h => assumption); (case j => exact rfl); intro H' u hp)
  | ((with_reducible refine g_isi (t := ?t) (b := ?b) ?ty ?e ?k); (case ty => assumption); (case e => first | exact kit_NoneType_tuple | exact kit_NoneType_list | exact kit_NoneType_bool | exact kit_NoneType_int | exact kit_int_tuple | exact kit_int_list | exact kit_int_bool | exact kit_int_int | exact kit_list_tuple | exact kit_list_list | exact kit_list_bool | exact kit_list_int | exact kit_tuple_tuple | exact kit_tuple_list | exact kit_tuple_bool | exact kit_tuple_int))
  | ((with_reducible refine g_draw (l := ?l) (ns := ?ns) ?a ?b ?h ?k); (case a => first | decide | omega); (case b => first | decide | omega); (case h => walk_at "pl"); intro r H' h0 h1 hs pl)
  | ((with_reducible refine g_dgetS (v := ?v) (kvs := ?kvs) ?h ?e ?k); (case h => assumption); (case e => assumption))
  | with_reducible refine g_and ?_
  | with_reducible refine w_keys ?_
  | with_reducible refine w_rng3 ?_
  | with_reducible refine w_items ?_
  | with_reducible refine g_or ?_
  | with_reducible refine g_not ?_
  | with_reducible refine g_yes ?_
  | with_reducible refine g_tru ?_
  | with_reducible refine g_fld ?_
  | with_reducible refine g_meth ?_
  | with_reducible refine g_make ?_
  | with_reducible refine g_tupE ?_
  | with_reducible refine g_lstE ?_
  | with_reducible refine g_sl ?_
  | with_reducible refine g_part ?_
  | with_reducible refine g_nopart ?_
  | with_reducible refine g_bm ?_
  | with_reducible refine g_bm0 ?_
  | with_reducible refine g_if ?_
  | with_reducible refine g_un ?_
  | with_reducible refine g_isN ?_
  | with_reducible refine g_notN ?_
  | with_reducible refine g_andV ?_
  | with_reducible refine g_orV ?_
  | with_reducible refine g_notV ?_
  | with_reducible refine g_lc ?_
  | with_reducible refine g_dget ?_
  | with_reducible refine g_din ?_
  | with_reducible refine g_dnotin ?_
  | with_reducible refine g_fldS ?_
  | with_reducible refine g_dput ?_
  | with_reducible refine g_sub ?_
  | with_reducible refine g_consT ?_
  | with_reducible refine g_nilT ?_
  | ((with_reducible refine g_name (σ' := ?s) ?h ?k); (case h => (dsimp only [List.set]; exact rfl)))
  | with_reducible refine w_list ?_
  | with_reducible refine w_tup ?_
  | with_reducible refine w_rng1 ?_
  | with_reducible refine w_enumT ?_
  | with_reducible refine w_enum ?_
  | with_reducible refine w_zip ?_
  | with_reducible refine w_zipM ?_
  | with_reducible refine w_zipA ?_
  | with_reducible refine w_rng ?_
  | with_reducible refine g_int1 ?_
  | ((with_reducible refine g_ixT (M := ?m) (ds := ?ds) (d := ?d) ?c ?h ?e ?k); (case c => assumption); (case h => walk_at "is"); (case e => walk_at "at"); walk_at "sc")
  | ((with_reducible refine g_ixL (M := ?m) (ds := ?ds) (d := ?d) ?c ?h ?e ?k); (case c => assumption); (case h => walk_at "is"); (case e => walk_at "at"); walk_at "sc")
  | ((with_reducible refine g_lenL (M := ?m) (ds := ?ds) ?c ?h ?k); (case c => assumption); (case h => walk_at "is"))
  | ((with_reducible refine g_lenT (M := ?m) (ds := ?ds) ?c ?h ?k); (case c => assumption); (case h => walk_at "is")))
local macro_rules | `(tactic| walk_at "len") => `(tactic| ((try simp only [List.length_map, List.length_append, List.length_cons, List.length_nil, List.length_range, List.length_zip]); omega))
local macro_rules | `(tactic| walk_at "gg") => `(tactic| repeat walk_at "g")
def lkI (ts : List (Str × Option Int)) (n : Str) : Option Int := (lkT ts n).getD none
theorem lkI_put {ts : List (Str × Option Int)} {n : Str} {a : Option Int} (m : Str) : lkI (putT ts n a) m = if m = n then a else lkI ts m := by
  unfold lkI
  rw [lk_put]
  by_cases h : m = n
  · rw [if_pos h, if_pos h]
    rfl
  · rw [if_neg h, if_neg h]
theorem encI_is {N : Hp} {a : Option Int} {v : V} (h : Is N (encI a) v) : ∀ N', Is N' (encI a) v := fun N' => by
  cases a with
  | none =>
    obtain rfl := Is.none_inv h
    exact .non
  | some i =>
    obtain rfl := Is.int_inv h
    exact .int _
def sumI (ts : List (Str × Option Int)) (nets : List Str) (his : List Int) (i : Nat) : List Int := ((nets.zip his).take i).filterMap fun p => (lkI ts p.1).map (· + p.2)
theorem sumI_all {ts : List (Str × Option Int)} {nets : List Str} {his : List Int} : sumI ts nets his (nets.zip his).length = sums (lkI ts) nets his := by
  unfold sumI sums
  rw [List.take_length]
theorem sumI_snoc {ts : List (Str × Option Int)} {nets : List Str} {his : List Int} {i : Nat} {n : Str} {h : Int} (e1 : nets[i]? = some n) (e2 : his[i]? = some h) : sumI ts nets his (i + 1) = sumI ts nets his i ++ (match lkI ts n with | some t => [t + h] | none => []) := by
  unfold sumI
  have e : (nets.zip his)[i]? = some (n, h) := List.getElem?_zip_eq_some.mpr ⟨e1, e2⟩
  rw [List.take_add_one, e, List.filterMap_append]
  congr 1
  cases q : lkI ts n <;> simp [q]
theorem hiOf_at : ∀ {rs : List Row} {ch : List Nat} {i : Nat} {r : Row} {k : Nat}, rs[i]? = some r → ch[i]? = some k → (hiOf rs ch)[i]? = some (r.hi k)
  | [], _, _, _, _, h, _ => by simp at h
  | _ :: _, [], _, _, _, _, h => by simp at h
  | r :: rs, k :: ch, 0, _, _, h, h' => by
    simp at h h'
    subst h h'
    rfl
  | r :: rs, k :: ch, i + 1, _, _, h, h' => by
    show (hiOf rs ch)[i]? = _
    exact hiOf_at (rs := rs) (ch := ch) (by simpa using h) (by simpa using h')
theorem pre_at : ∀ {sizes : List (List Size)} {ch : List Nat} {i k : Nat} {r : List Size}, Pre (rowsOf sizes) ch → sizes[i]? = some r → ch[i]? = some k → k < r.length
  | [], _, _, _, _, _, h, _ => by simp at h
  | _ :: _, [], _, _, _, _, _, h => by simp at h
  | r :: rs, k :: ch, 0, _, _, p, h, h' => by
    simp at h h'
    subst h h'
    have := p.1
    unfold rowOf at this
    rwa [List.length_map] at this
  | r :: rs, k :: ch, i + 1, _, _, p, h, h' => pre_at (sizes := rs) (ch := ch) p.2 (by simpa using h) (by simpa using h')
def spWLate : Sp := fun vs H Q _ => ∃ (M : List Addr) (cv sv chv zv : V) (c : Circ) (st : List (Int × Int)) (ch : List Nat) (sizes : List (List Size)), vs = [cv, sv, chv, zv] ∧ Dom M H ∧ Is (hol M H) (encC c) cv ∧ Is (hol M H) (.list (st.map encP)) sv ∧ Is (hol M H) (encCh ch) chv ∧ Is (hol M H) (encSS sizes) zv ∧
  Sound c ∧ StrsOk c ∧ SzOk c sizes ∧ st.length = (srcs c).length ∧ Pre (rowsOf sizes) ch ∧ ch.length = sizes.length ∧
  ∀ d kvs ts H', H d = none → Same H (hol [d] H') → H' d = some (.dK kvs) → (∀ N, IsD encI N ts kvs) → (ts.map (·.1)).Nodup → (∀ n ∈ nets c, n ∈ ts.map (·.1)) → (∀ n ∈ ts.map (·.1), n ∈ nets c) → ts.length ≤ 5000 → Late (srcL c st) (gsL c) (hiOf (rowsOf sizes) ch) (lkI ts) → Q (.ref d) H'
theorem take_key {c : Circ} (S : Sound c) {st : List (Int × Int)} {i : Nat} {a : Str} {q : Int × Int} (h1 : (srcs c)[i]? = some a) (h2 : st[i]? = some q) : ((srcs c).zip st)[i]? = some (a, q) := List.getElem?_zip_eq_some.mpr ⟨h1, h2⟩
theorem r_late_w {K : PySem.W.Frag} {vs : List V} {H : Hp} {Q : VK} {E : XK} {n b c : L2.St → Hp → Prop} (h : spWLate vs H Q E) : rd_w_late K spOrder ⟨n, Q, b, c⟩ (start N_w_late vs) H := by
  obtain ⟨M, cv, sv, chv, zv, ci, st, ch, sizes, rfl, dm, isc, iss, ish, isz, S, SO, Z, hl, hpre, hcl, k⟩ := h
  have few := S.few
  have few2 := S.few2
  have sl : (srcs ci).length < 1000 := by unfold srcs; rw [List.length_append, List.length_map]; exact few
  have cu := Sg.cur M
  show rd_w_late K _ _ [some cv, some sv, some chv, some zv, none, none, none, none, none, none, none, none] H
  unfold rd_w_late
  walk_at "gg"
  refine g_dnewM cu (fun d H1 hd s1 hd1 s1' s1'' => ?_)
  have ndM : d ∉ M := dm.not hd
  have isc1 := isc.mono s1'
  have iss1 := iss.mono s1'
  have ish1 := ish.mono s1'
  have isz1 := isz.mono s1'
  have dm1 : Dom (d :: M) H1 := .cons hd1 (dm.mono s1)
  clear isc iss ish isz cu dm
  have cu := Sg.cur (d :: M)
  walk_at "gg"
  rename_i v2 H2 s2 is2 _ _ _ _
  have isc2 := isc1.mono (same_hol s2)
  have dm2 := dm1.mono s2
  refine lc_map ‹Src _ _ (ci.regs.map encR)› (fun r : Str × List PyData => some (.str r.1)) cu dm2 (by walk_at "ex") (by omega) (fun i a x L H' Y No hd' cu dm' sM s0 isx kY kN => ?_) (fun v3 H3 s3 is3 => ?_)
  · show gName 11 x [some cv, some sv, some chv, some zv, some (.ref d), none, none, none, none, none, none, none] H' _
    walk_at "gg"
    exact kY _ _ _ (Same.refl _) (Is.str _) rfl
  rw [fm_some] at is3
  have is23 := is2.mono (same_hol s3)
  refine g_cat cu (dm2.mono s3) is23 is3 (by rw [List.length_map, List.length_map]; omega) (fun v4 H4 s4 is4 => ?_)
  have e4 : (ci.ins.map PyData.str ++ ci.regs.map fun r : Str × List PyData => PyData.str r.1) = (srcs ci).map PyData.str := by
    unfold srcs
    rw [List.map_append, List.map_map]
    rfl
  rw [e4] at is4
  have s14 := (s2.trans s3).trans s4
  have dm4 := dm1.mono s14
  have hd4 := s14 _ _ hd1
  have t14 : Same (hol (d :: M) H1) (hol (d :: M) H4) := same_hol s14
  have isc4 := isc1.mono t14
  have iss4 := iss1.mono t14
  have ish4 := ish1.mono t14
  have isz4 := isz1.mono t14
  have s04 : Same H (hol [d] H4) := s1''.trans (same_hol (M := [d]) s14)
  clear isc1 iss1 ish1 isz1 isc2 is2 is3 is23 dm1 dm2
  walk_at "gg"
  refine w_rng1K (n := (srcs ci).length) (by rw [List.length_map]) (by omega) ?_
  refine for_map (l := List.range (srcs ci).length) (enc := fun i : Nat => PyData.int ((i : Nat) : Int)) (src_range (B := fun _ => none)) (fun i σ H' => ∃ (kvs : List (Key × V)) (ts : List (Str × Option Int)) (o6 : Option V), σ = [some cv, some sv, some chv, some zv, some (.ref d), some v4, o6, none, none, none, none, none] ∧ H' d = some (.dK kvs) ∧ (∀ N, IsD encI N ts kvs) ∧
    (ts.map (·.1)).Nodup ∧ (∀ n ∈ ts.map (·.1), n ∈ srcs ci) ∧ ts.length ≤ i ∧ (∀ e ∈ ((srcs ci).zip st).take i, lkT ts e.1 = some (some e.2.2)) ∧ Same (hol (d :: M) H4) (hol (d :: M) H') ∧ Dom (d :: M) H' ∧ Same H (hol [d] H'))
    ⟨[], [], none, rfl, hd4, fun _ => trivial, by simp, by simp, Nat.le_refl _, by simp, Same.refl _, dm4, s04⟩ (fun j σ H' q => ?_) (fun i a y σ H5 H6 ha q s56 isx => ?_) (fun σ H5 q => ?_)
  · exact fun _ _ e => (nomatch e)
  · obtain ⟨kvs, ts, o6, rfl, hd5, isT, nd, kin, tl, hts, t5, dm5, s05⟩ := q
    obtain rfl := (isx [] .nil (fun _ _ e => (nomatch e))).int_inv
    obtain ⟨il, ie⟩ := List.getElem?_eq_some_iff.mp ha
    rw [List.length_range] at il
    rw [List.getElem_range] at ie
    subst ie
    have t6 := t5.trans (same_hol s56)
    have hd6 := s56 _ _ hd5
    have dm6 := dm5.mono s56
    have iss6 := iss4.mono t6
    have is6 := is4.mono t6
    have hs : (srcs ci)[i]? = some (srcs ci)[i] := List.getElem?_eq_getElem il
    have hq : st[i]? = some st[i] := List.getElem?_eq_getElem (by omega)
    have hzip := take_key S hs hq
    generalize (srcs ci)[i] = a at hs hzip
    generalize st[i] = q at hq hzip
    walk_at "gg"
    unfold b1_w_late
    walk_at "gg"
    refine g_putM (k := .inr a) hd6 (by rw [(isT H6).len]; omega) (fun H7 u7 hd7 => ?_)
    refine ⟨_, putT ts a (some q.2), _, rfl, hd7, fun N => (isT N).put (a := some q.2) (.int _), nodup_put nd, fun n hn => ?_, ?_, fun e he => ?_, t6.trans (u7.hol (by simp)), u7.dom hd7 dm6, (s05.trans (same_hol (M := [d]) s56)).trans (u7.hol (by simp))⟩
    · rcases mem_put.mp hn with z | z
      · rw [z]; exact List.mem_of_getElem? hs
      · exact kin n z
    · have := len_put ts a (some q.2)
      omega
    · rw [List.take_add_one, hzip] at he
      rw [lk_put]
      rcases List.mem_append.mp he with z | z
      · rw [if_neg (zip_key_ne S.snd hzip z)]
        exact hts e z
      · simp at z
        subst z
        rw [if_pos rfl]
  · obtain ⟨kvs, ts, o6, rfl, hd5, isT, nd, kin, tl, hts, t5, dm5, s05⟩ := q
    rw [List.length_range] at tl hts
    have hts : ∀ e ∈ (srcs ci).zip st, lkT ts e.1 = some (some e.2.2) := fun e he => hts e (by rw [List.take_of_length_le (by rw [List.length_zip]; omega)]; exact he)
    have isc5 := isc4.mono t5
    have iss5 := iss4.mono t5
    have ish5 := ish4.mono t5
    have isz5 := isz4.mono t5
    clear isc4 iss4 ish4 isz4 dm4 is4
    walk_at "gg"
    refine g_SpF cu ci dm5 (.cons isc5 .nil) ⟨S, SO⟩ (fun dd v7 H7 hd7 s7 is7 => ?_)
    obtain ⟨ord, hord, olen, rfl⟩ := hd7
    have hd7 := s7 _ _ hd5
    have dm7 := dm5.mono s7
    have t7 : Same (hol (d :: M) H5) (hol (d :: M) H7) := same_hol s7
    have isc7 := isc5.mono t7
    have ish7 := ish5.mono t7
    have isz7 := isz5.mono t7
    have s07 := s05.trans (same_hol (M := [d]) s7)
    clear isc5 iss5 ish5 isz5
    have L0 : LateP ci (srcL ci st) (hiOf (rowsOf sizes) ch) [] (lkI ts) := LateP.start fun s l hs => by
      unfold srcL at hs
      rw [List.zip_map_right] at hs
      obtain ⟨p, hp, e⟩ := List.mem_map.mp hs
      cases e
      show (lkT ts p.1).getD none = _
      rw [hts p hp]
      rfl
    have K0 : ∀ n, Known ci [] n → n ∈ ts.map (·.1) := fun n hn => by
      rcases hn with q | ⟨j, hj, _⟩
      · obtain ⟨i, hi⟩ := List.getElem?_of_mem q
        have hi' := (List.getElem?_eq_some_iff.mp hi).1
        have := hts (n, st[i]) (List.mem_of_getElem? (i := i) (List.getElem?_zip_eq_some.mpr ⟨hi, List.getElem?_eq_getElem _⟩))
        exact List.mem_map.mpr ⟨_, lk_of this, rfl⟩
      · simp at hj
    walk_at "gg"
    refine for_map ‹Src _ (hol (d :: M) H7) (ord.map fun i => PyData.int ((i : Nat) : Int))› (fun i σ H' => ∃ (kvs : List (Key × V)) (ts : List (Str × Option Int)) (o7 o8 o9 o10 : Option V), σ = [some cv, some sv, some chv, some zv, some (.ref d), some v4, o6, o7, o8, o9, o10, none] ∧ H' d = some (.dK kvs) ∧ (∀ N, IsD encI N ts kvs) ∧
      (ts.map (·.1)).Nodup ∧ (∀ n ∈ ts.map (·.1), n ∈ nets ci) ∧ ts.length ≤ 1000 + i ∧ LateP ci (srcL ci st) (hiOf (rowsOf sizes) ch) (ord.take i) (lkI ts) ∧ (∀ n : Str, Known ci (ord.take i) n → n ∈ ts.map (fun e : Str × Option Int => e.1)) ∧ Same (hol (d :: M) H7) (hol (d :: M) H') ∧ Dom (d :: M) H' ∧ Same H (hol [d] H'))
      ⟨kvs, ts, none, none, none, none, rfl, hd7, isT, nd, fun n hn => List.mem_append_left _ (kin n hn), by omega, L0, K0, Same.refl _, dm7, s07⟩ (fun j σ H' q => ?_) (fun j i y σ H8 H9 ha q s89 isx => ?_) (fun σ H8 q => ?_)
    · obtain ⟨_, _, _, _, _, _, _, _, _, _, _, _, _, _, t, _⟩ := q
      exact t.trans hol_le
    · clear hd7 isT nd kin tl L0 K0 hts hd5
      obtain ⟨kvs, ts, o7, o8, o9, o10, rfl, hd8, isT, nd, kin, tl, LP, KN, t8, dm8, s08⟩ := q
      have isx := isx (d :: M) dm8 t8
      obtain rfl := isx.int_inv
      have jl := (List.getElem?_eq_some_iff.mp ha).1
      have tk : ord.take (j + 1) = ord.take j ++ [i] := by rw [List.take_add_one, ha]; rfl
      have O1 : Ord ci (ord.take j ++ [i]) := tk ▸ hord.take (j + 1)
      obtain ⟨g, hg, hw⟩ := O1.topo (ord.take j) i [] rfl
      have gm := List.mem_of_getElem? hg
      have pins := S.pins g gm
      have kn := known_nets S gm hw
      have gi := (List.getElem?_eq_some_iff.mp hg).1
      obtain ⟨r, hr⟩ : ∃ r, sizes[i]? = some r := ⟨_, List.getElem?_eq_getElem (by rw [Z.len]; exact gi)⟩
      obtain ⟨kc, hk⟩ : ∃ kc, ch[i]? = some kc := ⟨_, List.getElem?_eq_getElem (by rw [hcl, Z.len]; exact gi)⟩
      have kr := pre_at hpre hr hk
      obtain ⟨s, hs⟩ : ∃ s, r[kc]? = some s := ⟨_, List.getElem?_eq_getElem kr⟩
      have sw := Z.wid i g r hg hr s (List.mem_of_getElem? hs)
      have hh : (hiOf (rowsOf sizes) ch)[i]? = some (s.2.map (·.2)) := by
        rw [hiOf_at (r := rowOf r) (k := kc) (by unfold rowsOf; rw [List.getElem?_map, hr]; rfl) hk, (row_at hs).2]
      have t9 := t8.trans (same_hol s89)
      have dm9 := dm8.mono s89
      have hd9 := s89 _ _ hd8
      have isc9 := isc7.mono t9
      have s09 := s08.trans (same_hol (M := [d]) s89)
      walk_at "gg"
      unfold b3_w_late
      walk_at "gg"
      rename_i v8 is8
      refine g_lstM cu (Nat.le_of_ble_eq_true rfl) (fun Ls HA hLs sA hsA sA' sA'' => ?_)
      have nsd : Ls ≠ d := fun q => by rw [q, hd9] at hLs; cases hLs
      have is8A := is8.mono sA'
      have dmA : Dom (Ls :: d :: M) HA := .cons hsA (dm9.mono sA)
      have hdA := sA _ _ hd9
      have t7A : Same (hol (d :: M) H7) (hol (Ls :: d :: M) HA) := t9.trans sA'
      clear isc9 cu
      have cu := Sg.cur (Ls :: d :: M)
      walk_at "gg"
      refine w_rng1K (n := g.nets.length) (by rw [List.length_map]) (by omega) ?_
      clear is8
      refine for_map (l := List.range g.nets.length) (enc := fun i : Nat => PyData.int ((i : Nat) : Int)) (src_range (B := fun _ => none)) (fun m σ H' => ∃ (o10 : Option V), σ = [some cv, some sv, some chv, some zv, some (.ref d), some v4, o6, some (.int ((i : Nat) : Int)), some v8, some (.ref Ls), o10, none] ∧ H' Ls = some (.lst ((sumI ts g.nets (s.2.map (·.2)) m).map V.int)) ∧ Same (hol [Ls] HA) (hol [Ls] H'))
        ⟨_, rfl, by simpa [sumI] using hsA, Same.refl _⟩ (fun j σ H' q => ?_) (fun m a y σ HB HC ha q sBC isx => ?_) (fun σ HB q => ?_)
      · exact fun _ _ e => (nomatch e)
      · obtain ⟨o10, rfl, hsB, sAB⟩ := q
        obtain rfl := (isx [] .nil (fun _ _ e => (nomatch e))).int_inv
        obtain ⟨ml, me⟩ := List.getElem?_eq_some_iff.mp ha
        rw [List.length_range] at ml
        rw [List.getElem_range] at me
        subst me
        obtain ⟨n, hn⟩ : ∃ n, g.nets[m]? = some n := ⟨_, List.getElem?_eq_getElem ml⟩
        obtain ⟨q, hq⟩ : ∃ q, s.2[m]? = some q := ⟨_, List.getElem?_eq_getElem (by omega)⟩
        have hq2 : (s.2.map (·.2))[m]? = some q.2 := by rw [List.getElem?_map, hq]; rfl
        have sAC := sAB.trans (same_hol (M := [Ls]) sBC)
        have tAC : Same (hol (Ls :: d :: M) HA) (hol (Ls :: d :: M) HC) := ch_is sAC (by simp)
        have is8C := is8A.mono tAC
        have isz9 := (isz7.mono t7A).mono tAC
        have ish9 := (ish7.mono t7A).mono tAC
        have hdC := ch_at sAC (by simp [nsd.symm]) hdA
        have hsC := sBC _ _ hsB
        have dmC : Dom (Ls :: d :: M) HC := fun z hz => by
          obtain ⟨o, ho⟩ := dmA z hz
          by_cases w : z = Ls
          · rw [w]; exact ⟨_, hsC⟩
          · exact ⟨o, ch_at sAC (by simp [w]) ho⟩
        obtain ⟨av, hav⟩ := lk_key (KN n (kn n (List.mem_of_getElem? hn)))
        obtain ⟨w, hw', isw⟩ := (isT HC).get hav
        have ea : lkI ts n = av := by unfold lkI; rw [hav]; rfl
        walk_at "gg"
        unfold b2_w_late
        walk_at "gg"
        have sl2 : (sumI ts g.nets (s.2.map (·.2)) m).length ≤ m := by
          unfold sumI
          refine Nat.le_trans (List.length_filterMap_le _ _) ?_
          rw [List.length_take]
          omega
        cases av with
        | none =>
          obtain rfl := isw.none_inv
          rw [decide_eq_true rfl]
          walk_at "gg"
          refine ⟨_, rfl, ?_, sAC⟩
          rw [sumI_snoc hn hq2, ea]
          simpa using hsC
        | some t =>
          obtain rfl := isw.int_inv
          rw [decide_eq_false (by intro z; cases z)]
          walk_at "gg"
          refine g_ty hsC ?_
          walk_at "gg"
          refine g_app hsC (by rw [List.length_map]; omega) (fun HD uD hsD => ?_)
          refine ⟨_, rfl, ?_, sAC.trans (uD.hol (by simp))⟩
          rw [hsD, sumI_snoc hn hq2, ea, List.map_append]
          rfl
      · obtain ⟨o10, rfl, hsB, sAB⟩ := q
        have zl : (g.nets.zip (s.2.map (·.2))).length = g.nets.length := by rw [List.length_zip, List.length_map]; omega
        rw [List.length_range, ← zl, sumI_all] at hsB
        have tAB : Same (hol (Ls :: d :: M) HA) (hol (Ls :: d :: M) HB) := ch_is sAB (by simp)
        have hdB := ch_at sAB (by simp [nsd.symm]) hdA
        have s9B : Same H9 HB := fun z o hz => by
          by_cases w : z = Ls
          · rw [w, hLs] at hz; cases hz
          · exact ch_at sAB (by simp [w]) (sA _ _ hz)
        have t9B : Same (hol (d :: M) H9) (hol (d :: M) HB) := same_hol s9B
        have is8B : Is (hol (Ls :: d :: M) HB) (encG g) v8 := is8A.mono tAB
        have dmB := dm9.mono s9B
        have nLd : Ls ∉ d :: M := dm9.not hLs
        clear is8A
        have slen : (sums (lkI ts) g.nets (s.2.map (·.2))).length ≤ g.nets.length := by
          unfold sums
          refine Nat.le_trans (List.length_filterMap_le _ _) ?_
          rw [zl]
          exact Nat.le_refl _
        walk_at "gg"
        refine g_putM (k := .inr g.name) hdB (by rw [(isT HB).len]; omega) (fun HC uC hdC => ?_)
        have isT1 : ∀ N, IsD encI N (putT ts g.name none) (putK kvs (.inr g.name) .non) := fun N => (isT N).put (a := none) .non
        have hsC := uC.at nsd hsB
        have dmC := uC.dom hdC dmB
        have is8C := is8B.mono (Upd.hol uC (M := Ls :: d :: M) (by simp))
        walk_at "gg"
        have cu' := Sg.cur (d :: M)
        refine g_lstK cu' dmC (ds := []) (xs := []) .nil (by decide) (fun vD HD sD isD => ?_)
        have hsD := sD _ _ hsC
        have hdD := sD _ _ hdC
        have dmD := dmC.mono sD
        have isL : Is (hol (d :: M) HD) (.list ((sums (lkI ts) g.nets (s.2.map (·.2))).map PyData.int)) (.ref Ls) := lst_fin hsD (IsA.of_ints _) nLd
        refine g_neD (n := 1) (m := 1) cu' isL isD (Cmp.lst Cmp.int _) (Cmp.lst Cmp.int []) (by decide) (by decide) ?_
        rw [eqv_nil]
        have is8D := is8C.mono (same_hol sD)
        have tE : Same (hol (d :: M) H7) (hol (d :: M) HD) := ((t9.trans t9B).trans (uC.hol (by simp))).trans (same_hol sD)
        have sE : Same H (hol [d] HD) := ((s09.trans (same_hol (M := [d]) s9B)).trans (uC.hol (by simp))).trans (same_hol (M := [d]) sD)
        have nd1 := nodup_put (n := g.name) (a := (none : Option Int)) nd
        have kin1 : ∀ n ∈ (putT ts g.name (none : Option Int)).map (·.1), n ∈ nets ci := fun n hn => by
          rcases mem_put.mp hn with z | z
          · rw [z]; exact List.mem_append_right _ (List.mem_map.mpr ⟨g, gm, rfl⟩)
          · exact kin n z
        have tl1 := len_put ts g.name (none : Option Int)
        have KN1 : ∀ n, Known ci (ord.take (j + 1)) n → n ∈ (putT ts g.name (none : Option Int)).map (·.1) := fun n hn => by
          rw [tk] at hn
          rw [mem_put]
          rcases hn.mono hg with z | z
          · exact .inl z
          · exact .inr (KN n z)
        clear cu'
        cases hsum : sums (lkI ts) g.nets (s.2.map (·.2)) with
        | nil =>
          walk_at "gg"
          refine ⟨_, putT ts g.name none, _, _, _, _, rfl, hdD, isT1, nd1, kin1, by omega, ?_, KN1, tE, dmD, sE⟩
          rw [tk]
          exact LP.step S O1 (fun s l h => srcL_mem h) hg hh (fun n hn => by rw [lkI_put, if_neg hn]) (by rw [lkI_put, if_pos rfl]; exact .inl ⟨hsum, rfl⟩)
        | cons m0 ms =>
          rw [List.map_cons, List.isEmpty_cons]
          walk_at "gg"
          refine g_maxM hsD (by rw [hsum]; simp) (fun m hm hmax => ?_)
          walk_at "gg"
          refine g_putM (k := .inr g.name) hdD (by rw [(isT1 HD).len]; omega) (fun HF uF hdF => ?_)
          have tl2 := len_put (putT ts g.name none) g.name (some m)
          refine ⟨_, putT (putT ts g.name none) g.name (some m), _, _, _, _, rfl, hdF, fun N => (isT1 N).put (a := some m) (.int _), nodup_put nd1, fun n hn => ?_, ?_, ?_, fun n hn => mem_put.mpr (.inr (KN1 n hn)), tE.trans (uF.hol (by simp)), uF.dom hdF dmD, sE.trans (uF.hol (by simp))⟩
          · rcases mem_put.mp hn with z | z
            · rw [z]; exact List.mem_append_right _ (List.mem_map.mpr ⟨g, gm, rfl⟩)
            · exact kin1 n z
          · have : (putT (putT ts g.name none) g.name (some m)).length ≤ 1000 + (j + 1) := by
              have e : (putT (putT ts g.name none) g.name (some m)).length = (putT ts g.name none).length := by
                have h1 := congrArg List.length (keys_put (putT ts g.name none) g.name (some m))
                have : hasT (putT ts g.name (none : Option Int)) g.name = true := hasT_iff.mpr (mem_put.mpr (.inl rfl))
                rw [if_pos this, List.length_map, List.length_map] at h1
                exact h1
              omega
            exact this
          · rw [tk]
            refine LP.step S O1 (fun s l h => srcL_mem h) hg hh (fun n hn => by rw [lkI_put, if_neg hn, lkI_put, if_neg hn]) ?_
            rw [lkI_put, if_pos rfl]
            exact .inr ⟨m, hm, hmax, rfl⟩
    · clear hd7 isT nd kin tl L0 K0 hts hd5
      obtain ⟨kvs, ts, o7, o8, o9, o10, rfl, hd8, isT, nd, kin, tl, LP, KN, t8, dm8, s08⟩ := q
      rw [List.take_length] at LP KN
      walk_at "gg"
      have ol := hord.le
      exact k d kvs ts _ hd s08 hd8 isT nd (fun n hn => KN n (known_all hord olen hn)) kin (by omega) (LP.late hord olen)
theorem ok_late_w {P : Program} {w : World} {K : PySem.W.Frag} {mg : Str → Option Value} {base : Heap} {f : Addr} {fd : FuncData} (F : Fun K "_law_late" "_law_late" s_w_late f fd) (T : Bl mg) (c1 : Cal P w K mg base 1 "_law_order" spOrder) : FnOk P w K mg base CX0 2 f fd ["_law_circuit_here", "_law_starts_here", "_law_choice", "_law_sizes_here"] spWLate :=
  F.ok sc_w_late (fun vs H Q E h => by
    obtain ⟨_, _, _, _, _, _, _, _, _, rfl, _⟩ := h
    rfl) fun cdv A outer s H vs Q E hr h => ⟨_, dv_w_late T c1 hr, r_late_w h⟩

end Sg
namespace Sg
open PySem PySem.Spec PyProof.Rows L2
local macro_rules | `(tactic| walk_at "ey") => `(tactic| first
  | exact Same.refl _
  | exact hol_le
  | assumption
  | (refine Same.on ?r (same_hol (H := ?b) ?h); (case h => assumption); walk_at "ey")
  | (refine Same.on ?r (Upd.hol (l := ?l) (H := ?b) ?h ?m); (case h => assumption); (case m => simp); walk_at "ey")
  | (refine Same.on ?r (weak1 (p := ?p) (A := ?b) ?n ?h); (case h => assumption); (case n => simp); walk_at "ey")
  | (refine Same.on (B := ?b) ?r ?h; (case h => assumption); walk_at "ey")
  | (refine Same.on ?r (same1 (A := ?b) ?h); (case h => assumption); walk_at "ey")
  | (refine Same.on ?r (same2 (A := ?b) ?h); (case h => assumption); walk_at "ey"))
local macro_rules | `(tactic| walk_at "ex") => `(tactic| first
  | exact Same.refl _
  | exact hol_le
  | assumption
  | (refine Same.on ?r (same_hol (H := ?b) ?h); (case h => assumption); walk_at "ex")
  | (refine Same.on ?r (Upd.hol (l := ?l) (H := ?b) ?h ?m); (case h => assumption); (case m => simp); walk_at "ex")
  | (refine Same.on ?r (weak1 (p := ?p) (A := ?b) ?n ?h); (case h => assumption); (case n => simp); walk_at "ex")
  | (refine Same.on (B := ?b) ?r ?h; (case h => assumption); walk_at "ex")
  | (refine Same.on ?r (same1 (A := ?b) ?h); (case h => assumption); walk_at "ex")
  | (refine Same.on ?r (same2 (A := ?b) ?h); (case h => assumption); walk_at "ex")
  | (refine Same.on ?r (hol_le (M := ?m)); walk_at "ey"))
local macro_rules | `(tactic| walk_at "dom") => `(tactic| first
  | assumption
  | exact Dom.nil
  | (refine Dom.mono (H := ?b) ?h ?d; (case h => assumption); walk_at "dom")
  | (refine dom_draw (p := ?p) (l := ?l) (ns := ?ns) (A := ?b) ?h ?c ?d; (case h => assumption); (case c => assumption); walk_at "dom")
  | (refine Dom.cons (o := ?o) ?h ?d; (case h => assumption); walk_at "dom")
  | (refine Dom.holm (A := ?b) (N := ?n) ?h ?d; (case h => assumption); walk_at "dom")
  | (refine Upd.dom (l := ?l) (H := ?b) (o := ?o) ?h ?e ?d; (case h => assumption); (case e => assumption); walk_at "dom"))
local macro_rules | `(tactic| walk_at "pl") => `(tactic| first
  | assumption
  | (refine Pl.same (A := ?b) ?s ?h; (case s => assumption); walk_at "pl"))
local macro_rules | `(tactic| walk_at "is") => `(tactic| first
  | assumption
  | exact Is.int _
  | exact Is.str _
  | exact Is.bl _
  | exact Is.non
  | (refine Is.mono (H := ?b) ?s ?h; (case h => assumption); walk_at "ex"))
local macro_rules | `(tactic| walk_at "isa") => `(tactic| first
  | exact IsA.nil
  | (refine IsA.cons (d := ?x) (ds := ?xs) ?a ?b; (case a => walk_at "is"); (case b => walk_at "isa"))
  | (refine IsA.mono (H := ?b) ?s ?h; (case h => assumption); walk_at "ex"))
local macro_rules | `(tactic| walk_at "at") => `(tactic| first
  | exact at0
  | exact at1
  | exact at2
  | exact at3
  | exact at4
  | (refine atM (a := ?a) ?h; (case h => assumption))
  | (refine atJ (a := ?a) ?h; (case h => assumption)))
local macro_rules | `(tactic| walk_at "sc") => `(tactic| (intro v hv; first
  | ((with_reducible have e := Is.int_inv hv); subst e; clear hv)
  | ((with_reducible have e := Is.str_inv hv); subst e; clear hv)
  | ((with_reducible have e := Is.bool_inv hv); subst e; clear hv)
  | ((with_reducible have e := Is.none_inv hv); subst e; clear hv)
  | skip))
local macro_rules | `(tactic| walk_at "g") => `(tactic| first
  | with_reducible refine g_seq ?_
  | with_reducible refine g_asg ?_
  | with_reducible refine g_ret ?_
  | with_reducible refine g_drop ?_
  | with_reducible refine g_ifS ?_
  | with_reducible refine g_next ?_
  | with_reducible refine g_break ?_
  | with_reducible refine g_for ?_
  | with_reducible refine g_op ?_
  | ((with_reducible refine g_var (v := ?v) ?h ?k); (case h => exact rfl))
  | with_reducible refine g_c ?_
  | with_reducible refine g_I0 ?_
  | with_reducible refine g_U ?_
  | with_reducible refine g_cons ?_
  | with_reducible refine g_nil ?_
  | with_reducible refine g_cb ?_
  | with_reducible refine g_call ?_
  | with_reducible refine g_test ?_
  | with_reducible refine g_bl ?_
  | with_reducible refine g_int ?_
  | with_reducible refine g_B ?_
  | ((with_reducible refine g_wipe ?e ?k); (case e => exact rfl))
  | with_reducible refine g_iteT ?_
  | with_reducible refine g_iteF ?_
  | with_reducible refine g_iteNT ?_
  | with_reducible refine g_iteNF ?_
  | with_reducible refine g_andK ?_
  | with_reducible refine g_orK ?_
  | with_reducible refine g_notK ?_
  | ((with_reducible refine w_tupK (B := ?b) (ds := ?ds) ?s ?h ?k); (case h => assumption); (case s => walk_at "ex"); intro a S)
  | ((with_reducible refine w_listK (B := ?b) (ds := ?ds) ?s ?h ?k); (case h => assumption); (case s => walk_at "ex"); intro a S)
  | ((with_reducible refine w_enumK (B := ?b) (ds := ?ds) ?s ?h ?k); (case h => assumption); (case s => walk_at "ex"); intro a S)
  | ((with_reducible refine w_enumTK (B := ?b) (ds := ?ds) ?s ?h ?k); (case h => assumption); (case s => walk_at "ex"); intro a S)
  | ((with_reducible refine w_zipK (B := ?b) (ds := ?ds) (es := ?es) ?s ?h ?h' ?k); (case h => assumption); (case h' => walk_at "is"); (case s => walk_at "ex"); intro a b S)
  | ((with_reducible refine w_zipMK (B := ?b) (ds := ?ds) (es := ?es) ?s ?h ?h' ?k); (case h => assumption); (case h' => walk_at "is"); (case s => walk_at "ex"); intro a b S)
  | ((with_reducible refine w_zipTK (B := ?b) (ds := ?ds) (es := ?es) ?s ?h ?h' ?k); (case h => assumption); (case h' => walk_at "is"); (case s => walk_at "ex"); intro a b S)
  | ((with_reducible refine g_listOf (M := ?m) (ds := ?ds) ?c ?d ?h ?k); (case c => assumption); (case d => walk_at "dom"); (case h => first | (refine Or.inl ?_; walk_at "is") | (refine Or.inr ?_; walk_at "is")); intro v H' hs hv)
  | ((with_reducible refine g_tupOf (M := ?m) (ds := ?ds) ?c ?d ?h ?k); (case c => assumption); (case d => walk_at "dom"); (case h => walk_at "is"); intro v H' hs hv)
  | ((with_reducible refine g_tupK (M := ?m) (ds := ?ds) ?c ?d ?h ?l ?k); (case c => assumption); (case d => walk_at "dom"); (case h => walk_at "isa"); (case l => (simp only [List.length_cons, List.length_nil]; omega)); intro v H' hs hv)
  | ((with_reducible refine g_tupT (M := ?m) (ds := ?ds) ?c ?h ?e ?k); (case c => assumption); (case h => walk_at "is"); (case e => rfl); intro xs hxs)
  | ((with_reducible refine g_fldK (C := ?c) (dx := ?dx) (fs := ?fs) (v := ?v) ?h ?cl ?na ?l ?k); (case h => assumption); (case cl => assumption); (case na => assumption); (case l => first | assumption | exact rfl))
  | ((with_reducible refine g_fldM (C := ?c) (dx := ?dx) (fs := ?fs) ?h ?cl ?na ?hl ?k); (case h => assumption); (case cl => assumption); (case na => assumption); (case hl => exact Nat.le_of_ble_eq_true rfl); intro H' u hx)
  | ((with_reducible refine g_ixM (xs := ?xs) (v := ?v) ?h ?e ?k); (case h => assumption); (case e => first | exact at0 | exact at1 | exact at2 | exact at3 | exact at4))
  | ((with_reducible refine g_lenM (xs := ?xs) ?h ?k); (case h => assumption))
  | ((with_reducible refine g_mul ?h ?k); (case h => decide))
  | ((with_reducible refine g_mod ?h ?k); (case h => first | decide | assumption | omega))
  | ((with_reducible refine g_div ?h ?l ?k); (case h => first | decide | assumption | omega); (case l => first | decide | assumption | omega))
  | ((with_reducible refine g_subM (xs := ?xs) (k := ?n) ?h ?j ?k); (case h => assumption); (case j => exact rfl); intro H' u hp)
  | ((with_reducible refine g_isi (t := ?t) (b := ?b) ?ty ?e ?k); (case ty => assumption); (case e => first | exact kit_NoneType_tuple | exact kit_NoneType_list | exact kit_NoneType_bool | exact kit_NoneType_int | exact kit_int_tuple | exact kit_int_list | exact kit_int_bool | exact kit_int_int | exact kit_list_tuple | exact kit_list_list | exact kit_list_bool | exact kit_list_int | exact kit_tuple_tuple | exact kit_tuple_list | exact kit_tuple_bool | exact kit_tuple_int))
  | ((with_reducible refine g_draw (l := ?l) (ns := ?ns) ?a ?b ?h ?k); (case a => first | decide | omega); (case b => first | decide | omega); (case h => walk_at "pl"); intro r H' h0 h1 hs pl)
  | ((with_reducible refine g_dgetS (v := ?v) (kvs := ?kvs) ?h ?e ?k); (case h => assumption); (case e => assumption))
  | with_reducible refine g_and ?_
  | with_reducible refine w_keys ?_
  | with_reducible refine w_rng3 ?_
  | with_reducible refine w_items ?_
  | with_reducible refine g_or ?_
  | with_reducible refine g_not ?_
  | with_reducible refine g_yes ?_
  | with_reducible refine g_tru ?_
  | with_reducible refine g_fld ?_
  | with_reducible refine g_meth ?_
  | with_reducible refine g_make ?_
  | with_reducible refine g_tupE ?_
  | with_reducible refine g_lstE ?_
  | with_reducible refine g_sl ?_
  | with_reducible refine g_part ?_
  | with_reducible refine g_nopart ?_
  | with_reducible refine g_bm ?_
  | with_reducible refine g_bm0 ?_
  | with_reducible refine g_if ?_
  | with_reducible refine g_un ?_
  | with_reducible refine g_isN ?_
  | with_reducible refine g_notN ?_
  | with_reducible refine g_andV ?_
  | with_reducible refine g_orV ?_
  | with_reducible refine g_notV ?_
  | with_reducible refine g_lc ?_
  | with_reducible refine g_dget ?_
  | with_reducible refine g_din ?_
  | with_reducible refine g_dnotin ?_
  | with_reducible refine g_fldS ?_
  | with_reducible refine g_dput ?_
  | with_reducible refine g_sub ?_
  | with_reducible refine g_consT ?_
  | with_reducible refine g_nilT ?_
  | ((with_reducible refine g_name (σ' := ?s) ?h ?k); (case h => (dsimp only [List.set]; exact rfl)))
  | with_reducible refine w_list ?_
  | with_reducible refine w_tup ?_
  | with_reducible refine w_rng1 ?_
  | with_reducible refine w_enumT ?_
  | with_reducible refine w_enum ?_
  | with_reducible refine w_zip ?_
  | with_reducible refine w_zipM ?_
  | with_reducible refine w_zipA ?_
  | with_reducible refine w_rng ?_
  | with_reducible refine g_int1 ?_
  | ((with_reducible refine g_ixT (M := ?m) (ds := ?ds) (d := ?d) ?c ?h ?e ?k); (case c => assumption); (case h => walk_at "is"); (case e => walk_at "at"); walk_at "sc")
  | ((with_reducible refine g_ixL (M := ?m) (ds := ?ds) (d := ?d) ?c ?h ?e ?k); (case c => assumption); (case h => walk_at "is"); (case e => walk_at "at"); walk_at "sc")
  | ((with_reducible refine g_lenL (M := ?m) (ds := ?ds) ?c ?h ?k); (case c => assumption); (case h => walk_at "is"))
  | ((with_reducible refine g_lenT (M := ?m) (ds := ?ds) ?c ?h ?k); (case c => assumption); (case h => walk_at "is")))
local macro_rules | `(tactic| walk_at "len") => `(tactic| ((try simp only [List.length_map, List.length_append, List.length_cons, List.length_nil, List.length_range, List.length_zip]); omega))
local macro_rules | `(tactic| walk_at "gg") => `(tactic| repeat walk_at "g")
def lateF (ts : List (Str × Option Int)) (e : Str × Int) : Option PyData := match lkI ts e.1 with
  | some t => if e.2 < t then some (.str e.1) else none
  | none => none
theorem lateF_nil {ts : List (Str × Option Int)} {lim : List (Str × Int)} : (lim.filterMap (lateF ts)).isEmpty = true ↔ Within lim (lkI ts) := by
  rw [List.isEmpty_iff, List.filterMap_eq_nil_iff]
  constructor
  · intro h n l hm v hv
    have := h (n, l) hm
    unfold lateF at this
    rw [show lkI ts (n, l).1 = some v from hv] at this
    by_cases q : l < v
    · simp [q] at this
    · omega
  · intro h e he
    unfold lateF
    cases q : lkI ts e.1 with
    | none => rfl
    | some t =>
      have := h e.1 e.2 he t q
      simp [show ¬ e.2 < t by omega]
theorem lateF_strs (ts : List (Str × Option Int)) : ∀ lim : List (Str × Int), ∃ l : List Str, lim.filterMap (lateF ts) = l.map PyData.str ∧ ∀ s ∈ l, s ∈ lim.map (·.1)
  | [] => ⟨[], rfl, by simp⟩
  | e :: lim => by
    obtain ⟨l, h1, h2⟩ := lateF_strs ts lim
    rw [List.filterMap_cons, h1]
    cases q : lateF ts e with
    | none => exact ⟨l, rfl, fun s hs => List.mem_cons_of_mem _ (h2 s hs)⟩
    | some d =>
      have : d = .str e.1 := by
        unfold lateF at q
        cases z : lkI ts e.1 with
        | none => rw [z] at q; cases q
        | some t =>
          rw [z] at q
          dsimp only at q
          split at q
          · cases q; rfl
          · cases q
      subst this
      exact ⟨e.1 :: l, rfl, fun s hs => by
        rcases List.mem_cons.mp hs with w | w
        · rw [w]; exact List.mem_cons_self
        · exact List.mem_cons_of_mem _ (h2 s w)⟩
def spMeets : Sp := fun vs H Q _ => ∃ (d1 d2 : Addr) (k1 k2 : List (Key × V)) (ts : List (Str × Option Int)) (lim : List (Str × Int)), vs = [.ref d1, .ref d2] ∧ H d1 = some (.dK k1) ∧ H d2 = some (.dK k2) ∧ d1 ≠ d2 ∧ (∀ N, IsD encI N ts k1) ∧ (∀ N, IsD (fun i : Int => PyData.int i) N lim k2) ∧
  (lim.map (·.1)).Nodup ∧ (∀ n ∈ lim.map (·.1), n ∈ ts.map (·.1)) ∧ (∀ n ∈ lim.map (·.1), PyData.strOk n = true) ∧ lim.length < 10000 ∧ ∀ b H', Same H H' → (b = true ↔ Within lim (lkI ts)) → Q (.bl b) H'
theorem r_meets {K : PySem.W.Frag} {vs : List V} {H : Hp} {Q : VK} {E : XK} {n b c : L2.St → Hp → Prop} (h : spMeets vs H Q E) : rd_w_meets K ⟨n, Q, b, c⟩ (start N_w_meets vs) H := by
  obtain ⟨d1, d2, k1, k2, ts, lim, rfl, h1, h2, ne, i1, i2, nd, sub, sok, few, k⟩ := h
  show rd_w_meets K _ [some (.ref d1), some (.ref d2), none] H
  unfold rd_w_meets
  walk_at "gg"
  refine g_lockE h2 (fun od H1 u1 hf => ?_)
  have h11 := u1.at ne h1
  have cu := Sg.cur []
  iterate 2 walk_at "g"
  walk_at "g"
  refine w_keysK hf ?_
  refine lc_map (M := []) (src_keysD (i2 H) hf) (lateF ts) cu .nil (Same.refl _) (by omega) (fun i e x L H' Y No hd cu' dm' sM s0 isx kY kN => ?_) (fun v H2 s2 is2 => ?_)
  · obtain rfl := isx.str_inv
    have em : e ∈ lim := List.mem_of_getElem? hd
    have km : e.1 ∈ lim.map (·.1) := List.mem_map.mpr ⟨e, em, rfl⟩
    obtain ⟨av, hav⟩ := lk_key (sub e.1 km)
    obtain ⟨w, hw, isw⟩ := (i1 H').get hav
    obtain ⟨w2, hw2, isw2⟩ := (i2 H').get (lk_mem nd em)
    obtain rfl := isw2.int_inv
    have ea : lkI ts e.1 = av := by unfold lkI; rw [hav]; rfl
    have g1 : H' d1 = some (.dK k1) := hol_le _ _ (s0 _ _ h11)
    have g2 : H' d2 = some (.frz od (.dK k2)) := hol_le _ _ (s0 _ _ hf)
    show gName 2 _ [some (.ref d1), some (.ref d2), none] H' _
    walk_at "gg"
    cases av with
    | none =>
      obtain rfl := isw.none_inv
      rw [decide_eq_true rfl]
      walk_at "gg"
      exact kN _ (Same.refl _) (by unfold lateF; rw [ea])
    | some t =>
      obtain rfl := isw.int_inv
      rw [decide_eq_false (by intro z; cases z)]
      walk_at "gg"
      refine g_dgetF g2 hw2 ?_
      walk_at "gg"
      by_cases hlt : e.2 < t
      · rw [decide_eq_true hlt]
        walk_at "gg"
        exact kY _ _ _ (Same.refl _) (Is.str _) (by unfold lateF; rw [ea]; simp [hlt])
      · rw [decide_eq_false hlt]
        walk_at "gg"
        exact kN _ (Same.refl _) (by unfold lateF; rw [ea]; simp [hlt])
  · have hf2 := s2 _ _ hf
    refine ⟨hf2, ?_⟩
    obtain ⟨l, e1, e2⟩ := lateF_strs ts lim
    obtain ⟨a, xs, rfl, ha, hxs⟩ := is2.lst_inv
    rw [e1] at hxs
    rw [hxs.strs] at ha
    have ha : H2 a = some (.lst (l.map V.str)) := ha
    have nad : a ≠ d2 := fun q => by rw [q, hf2] at ha; cases ha
    have s3 : Same H (upd H2 d2 (.dK k2)) := same_lock ((Upd.hol u1 (M := [d2]) (by simp)).trans (same_hol s2)) h2
    have isA : Is (hol [] (upd H2 d2 (.dK k2))) (.list (l.map PyData.str)) (.ref a) := .lst (by show upd H2 d2 _ a = _; rw [upd_ne nad]; exact ha) (IsA.of_strs l)
    generalize upd H2 d2 (.dK k2) = H3 at s3 isA
    walk_at "gg"
    refine g_lstK cu .nil (ds := []) (xs := []) .nil (by decide) (fun v4 H4 s4 is4 => ?_)
    refine g_eqD (n := 1) (m := 1) cu (isA.mono s4) is4 (Cmp.strs fun s hs => sok s (e2 s hs)) (Cmp.lst Cmp.int []) (by decide) (by decide) ?_
    rw [eqv_nil, ← e1]
    exact k _ _ (s3.trans s4) lateF_nil
theorem ok_meets {P : Program} {w : World} {K : PySem.W.Frag} {mg : Str → Option Value} {base : Heap} {f : Addr} {fd : FuncData} (F : Fun K "_law_meets" "_law_meets" s_w_meets f fd) (T : Bl mg) : FnOk P w K mg base CX0 1 f fd ["_law_late_here", "_law_limits"] spMeets :=
  F.ok sc_w_meets (fun vs H Q E h => by
    obtain ⟨_, _, _, _, _, _, rfl, _⟩ := h
    rfl) fun cdv A outer s H vs Q E hr h => ⟨_, dv_w_meets T hr, r_meets h⟩
def spStarts : Sp := fun vs H Q _ => ∃ (p l : Addr) (ns : List Int) (M : List Addr) (cv : V) (c : Circ), vs = [.ref p, cv] ∧ Dom (p :: M) H ∧ Pl p l ns H ∧ Is (hol (p :: M) H) (encC c) cv ∧ c.ins.length + c.regs.length < 1000 ∧
  ∀ (st : List (Int × Int)) v H', Same (hol [p] H) (hol [p] H') → Pl p l ns H' → Is (hol (p :: M) H') (.list (st.map encP)) v → st.length = (srcs c).length → (∀ q ∈ st, q.1 ≤ q.2) → Q v H'
theorem r_starts {K : PySem.W.Frag} {vs : List V} {H : Hp} {Q : VK} {E : XK} {n b c : L2.St → Hp → Prop} (h : spStarts vs H Q E) : rd_w_starts K spDraw ⟨n, Q, b, c⟩ (start N_w_starts vs) H := by
  obtain ⟨p, l, ns, M, cv, ci, rfl, dm, pl, isc, few, k⟩ := h
  have sl : (srcs ci).length = ci.ins.length + ci.regs.length := by unfold srcs; rw [List.length_append, List.length_map]
  have cu := Sg.cur (p :: M)
  show rd_w_starts K _ _ [some (.ref p), some cv, none, none, none] H
  unfold rd_w_starts
  walk_at "gg"
  refine g_lstM cu (Nat.le_of_ble_eq_true rfl) (fun L H1 hL s1 hL1 s1' s1'' => ?_)
  have pl1 := pl.same s1
  obtain ⟨nLp, nLl⟩ := pl_ne pl hL
  have nLM : L ∉ p :: M := dm.not hL
  have dm1 : Dom (L :: p :: M) H1 := .cons hL1 (dm.mono s1)
  have isc1 := isc.mono s1'
  clear isc cu
  have cu := Sg.cur (L :: p :: M)
  walk_at "gg"
  refine w_rng1K (n := (srcs ci).length) (by rw [List.length_map, List.length_map, sl]; omega) (by omega) ?_
  refine for_map (l := List.range (srcs ci).length) (enc := fun i : Nat => PyData.int ((i : Nat) : Int)) (src_range (B := fun _ => none)) (fun i σ H' => ∃ (st : List (Int × Int)) (xs : List V) (o3 o4 : Option V), σ = [some (.ref p), some cv, some (.ref L), o3, o4] ∧
    H' L = some (.lst xs) ∧ IsA (hol (L :: p :: M) H') (st.map encP) xs ∧ st.length = i ∧ (∀ q ∈ st, q.1 ≤ q.2) ∧ Pl p l ns H' ∧ Dom (L :: p :: M) H' ∧ Same (hol [L, p] H1) (hol [L, p] H')) ⟨[], [], none, none, rfl, hL1, .nil, rfl, by simp, pl1, dm1, Same.refl _⟩ (fun j σ H' q => ?_) (fun i a y σ HF HG haF q sFG isx => ?_) (fun σ HF q => ?_)
  · exact fun _ _ e => (nomatch e)
  · obtain ⟨st, xs, o3, o4, rfl, hrF, rF, rl, hle, plF, dmF, sF⟩ := q
    have il := (List.getElem?_eq_some_iff.mp haF).1
    rw [List.length_range] at il
    have hrG := sFG _ _ hrF
    have plG := plF.same sFG
    have dmG := dmF.mono sFG
    have xl := rF.len
    rw [List.length_map] at xl
    walk_at "gg"
    unfold b1_w_starts
    walk_at "gg"
    rename_i rI HI rI0 rI1 sI plI
    have hrI := ch_at sI (by simp [nLp]) hrG
    refine g_ty hrI ?_
    have dmI : Dom (L :: p :: M) HI := dom_draw sI plI dmG
    walk_at "gg"
    rename_i rJ HJ rJ0 rJ1 sJ plJ vK HK sK isK
    have hrK := sK _ _ (ch_at sJ (by simp [nLp]) hrI)
    refine g_app hrK (by omega) (fun HO u hrO => ?_)
    have tO : Same (hol (L :: p :: M) HF) (hol (L :: p :: M) HO) := ((((same_hol sFG).trans (weak1 (by simp) sI)).trans (weak1 (by simp) sJ)).trans (same_hol sK)).trans (u.hol (by simp))
    refine ⟨st ++ [(rI - 4, rI - 4 + rJ)], _, _, _, rfl, hrO, ?_, by rw [List.length_append, List.length_singleton, rl], fun q hq => ?_, (plJ.same sK).upd u nLp nLl, u.dom hrO ((dom_draw sJ plJ dmI).mono sK), ?_⟩
    · rw [List.map_append]
      exact (rF.mono tO).app (IsA.one (isK.mono (u.hol (by simp))))
    · rcases List.mem_append.mp hq with z | z
      · exact hle q z
      · simp at z
        rw [z]
        show rI - 4 ≤ rI - 4 + rJ
        omega
    · exact ((((sF.trans (same_hol (M := [L, p]) sFG)).trans (weak1 (M := [L, p]) (by simp) sI)).trans (weak1 (M := [L, p]) (by simp) sJ)).trans (same_hol (M := [L, p]) sK)).trans (u.hol (by simp))
  · obtain ⟨st, xs, o3, o4, rfl, hrF, rF, rl, hle, plF, dmF, sF⟩ := q
    rw [List.length_range] at rl
    walk_at "gg"
    exact k st _ _ (ch_new s1'' sF) plF (lst_fin hrF rF nLM) rl hle
theorem ok_starts {P : Program} {w : World} {K : PySem.W.Frag} {mg : Str → Option Value} {base : Heap} {f : Addr} {fd : FuncData} (F : Fun K "_law_starts" "_law_starts" s_w_starts f fd) (T : Bl mg) (c1 : Cal P w K mg base 2 "_law_draw" spDraw) : FnOk P w K mg base CX0 3 f fd ["_law_pool_here", "_law_circuit_here"] spStarts :=
  F.ok sc_w_starts (fun vs H Q E h => by
    obtain ⟨_, _, _, _, _, _, rfl, _⟩ := h
    rfl) fun cdv A outer s H vs Q E hr h => ⟨_, dv_w_starts T c1 hr, r_starts h⟩

end Sg
namespace Sg
open PySem PySem.Spec PyProof.Rows L2
local macro_rules | `(tactic| walk_at "ey") => `(tactic| first
  | exact Same.refl _
  | exact hol_le
  | assumption
  | (refine Same.on ?r (same_hol (H := ?b) ?h); (case h => assumption); walk_at "ey")
  | (refine Same.on ?r (Upd.hol (l := ?l) (H := ?b) ?h ?m); (case h => assumption); (case m => simp); walk_at "ey")
  | (refine Same.on ?r (weak1 (p := ?p) (A := ?b) ?n ?h); (case h => assumption); (case n => simp); walk_at "ey")
  | (refine Same.on (B := ?b) ?r ?h; (case h => assumption); walk_at "ey")
  | (refine Same.on ?r (same1 (A := ?b) ?h); (case h => assumption); walk_at "ey")
  | (refine Same.on ?r (same2 (A := ?b) ?h); (case h => assumption); walk_at "ey"))
local macro_rules | `(tactic| walk_at "ex") => `(tactic| first
  | exact Same.refl _
  | exact hol_le
  | assumption
  | (refine Same.on ?r (same_hol (H := ?b) ?h); (case h => assumption); walk_at "ex")
  | (refine Same.on ?r (Upd.hol (l := ?l) (H := ?b) ?h ?m); (case h => assumption); (case m => simp); walk_at "ex")
  | (refine Same.on ?r (weak1 (p := ?p) (A := ?b) ?n ?h); (case h => assumption); (case n => simp); walk_at "ex")
  | (refine Same.on (B := ?b) ?r ?h; (case h => assumption); walk_at "ex")
  | (refine Same.on ?r (same1 (A := ?b) ?h); (case h => assumption); walk_at "ex")
  | (refine Same.on ?r (same2 (A := ?b) ?h); (case h => assumption); walk_at "ex")
  | (refine Same.on ?r (hol_le (M := ?m)); walk_at "ey"))
local macro_rules | `(tactic| walk_at "dom") => `(tactic| first
  | assumption
  | exact Dom.nil
  | (refine Dom.mono (H := ?b) ?h ?d; (case h => assumption); walk_at "dom")
  | (refine dom_draw (p := ?p) (l := ?l) (ns := ?ns) (A := ?b) ?h ?c ?d; (case h => assumption); (case c => assumption); walk_at "dom")
  | (refine Dom.cons (o := ?o) ?h ?d; (case h => assumption); walk_at "dom")
  | (refine Dom.holm (A := ?b) (N := ?n) ?h ?d; (case h => assumption); walk_at "dom")
  | (refine Upd.dom (l := ?l) (H := ?b) (o := ?o) ?h ?e ?d; (case h => assumption); (case e => assumption); walk_at "dom"))
local macro_rules | `(tactic| walk_at "pl") => `(tactic| first
  | assumption
  | (refine Pl.same (A := ?b) ?s ?h; (case s => assumption); walk_at "pl"))
local macro_rules | `(tactic| walk_at "is") => `(tactic| first
  | assumption
  | exact Is.int _
  | exact Is.str _
  | exact Is.bl _
  | exact Is.non
  | (refine Is.mono (H := ?b) ?s ?h; (case h => assumption); walk_at "ex"))
local macro_rules | `(tactic| walk_at "isa") => `(tactic| first
  | exact IsA.nil
  | (refine IsA.cons (d := ?x) (ds := ?xs) ?a ?b; (case a => walk_at "is"); (case b => walk_at "isa"))
  | (refine IsA.mono (H := ?b) ?s ?h; (case h => assumption); walk_at "ex"))
local macro_rules | `(tactic| walk_at "at") => `(tactic| first
  | exact at0
  | exact at1
  | exact at2
  | exact at3
  | exact at4
  | (refine atM (a := ?a) ?h; (case h => assumption))
  | (refine atJ (a := ?a) ?h; (case h => assumption)))
local macro_rules | `(tactic| walk_at "sc") => `(tactic| (intro v hv; first
  | ((with_reducible have e := Is.int_inv hv); subst e; clear hv)
  | ((with_reducible have e := Is.str_inv hv); subst e; clear hv)
  | ((with_reducible have e := Is.bool_inv hv); subst e; clear hv)
  | ((with_reducible have e := Is.none_inv hv); subst e; clear hv)
  | skip))
local macro_rules | `(tactic| walk_at "g") => `(tactic| first
  | with_reducible refine g_seq ?_
  | with_reducible refine g_asg ?_
  | with_reducible refine g_ret ?_
  | with_reducible refine g_drop ?_
  | with_reducible refine g_ifS ?_
  | with_reducible refine g_next ?_
  | with_reducible refine g_break ?_
  | with_reducible refine g_for ?_
  | with_reducible refine g_op ?_
  | ((with_reducible refine g_var (v := ?v) ?h ?k); (case h => exact rfl))
  | with_reducible refine g_c ?_
  | with_reducible refine g_I0 ?_
  | with_reducible refine g_U ?_
  | with_reducible refine g_cons ?_
  | with_reducible refine g_nil ?_
  | with_reducible refine g_cb ?_
  | with_reducible refine g_call ?_
  | with_reducible refine g_test ?_
  | with_reducible refine g_bl ?_
  | with_reducible refine g_int ?_
  | with_reducible refine g_B ?_
  | ((with_reducible refine g_wipe ?e ?k); (case e => exact rfl))
  | with_reducible refine g_iteT ?_
  | with_reducible refine g_iteF ?_
  | with_reducible refine g_iteNT ?_
  | with_reducible refine g_iteNF ?_
  | with_reducible refine g_andK ?_
  | with_reducible refine g_orK ?_
  | with_reducible refine g_notK ?_
  | ((with_reducible refine w_tupK (B := ?b) (ds := ?ds) ?s ?h ?k); (case h => assumption); (case s => walk_at "ex"); intro a S)
  | ((with_reducible refine w_listK (B := ?b) (ds := ?ds) ?s ?h ?k); (case h => assumption); (case s => walk_at "ex"); intro a S)
  | ((with_reducible refine w_enumK (B := ?b) (ds := ?ds) ?s ?h ?k); (case h => assumption); (case s => walk_at "ex"); intro a S)
  | ((with_reducible refine w_enumTK (B := ?b) (ds := ?ds) ?s ?h ?k); (case h => assumption); (case s => walk_at "ex"); intro a S)
  | ((with_reducible refine w_zipK (B := ?b) (ds := ?ds) (es := ?es) ?s ?h ?h' ?k); (case h => assumption); (case h' => walk_at "is"); (case s => walk_at "ex"); intro a b S)
  | ((with_reducible refine w_zipMK (B := ?b) (ds := ?ds) (es := ?es) ?s ?h ?h' ?k); (case h => assumption); (case h' => walk_at "is"); (case s => walk_at "ex"); intro a b S)
  | ((with_reducible refine w_zipTK (B := ?b) (ds := ?ds) (es := ?es) ?s ?h ?h' ?k); (case h => assumption); (case h' => walk_at "is"); (case s => walk_at "ex"); intro a b S)
  | ((with_reducible refine g_listOf (M := ?m) (ds := ?ds) ?c ?d ?h ?k); (case c => assumption); (case d => walk_at "dom"); (case h => first | (refine Or.inl ?_; walk_at "is") | (refine Or.inr ?_; walk_at "is")); intro v H' hs hv)
  | ((with_reducible refine g_tupOf (M := ?m) (ds := ?ds) ?c ?d ?h ?k); (case c => assumption); (case d => walk_at "dom"); (case h => walk_at "is"); intro v H' hs hv)
  | ((with_reducible refine g_tupK (M := ?m) (ds := ?ds) ?c ?d ?h ?l ?k); (case c => assumption); (case d => walk_at "dom"); (case h => walk_at "isa"); (case l => (simp only [List.length_cons, List.length_nil]; omega)); intro v H' hs hv)
  | ((with_reducible refine g_tupT (M := ?m) (ds := ?ds) ?c ?h ?e ?k); (case c => assumption); (case h => walk_at "is"); (case e => rfl); intro xs hxs)
  | ((with_reducible refine g_fldK (C := ?c) (dx := ?dx) (fs := ?fs) (v := ?v) ?h ?cl ?na ?l ?k); (case h => assumption); (case cl => assumption); (case na => assumption); (case l => first | assumption | exact rfl))
  | ((with_reducible refine g_fldM (C := ?c) (dx := ?dx) (fs := ?fs) ?h ?cl ?na ?hl ?k); (case h => assumption); (case cl => assumption); (case na => assumption); (case hl => exact Nat.le_of_ble_eq_true rfl); intro H' u hx)
  | ((with_reducible refine g_ixM (xs := ?xs) (v := ?v) ?h ?e ?k); (case h => assumption); (case e => first | exact at0 | exact at1 | exact at2 | exact at3 | exact at4))
  | ((with_reducible refine g_lenM (xs := ?xs) ?h ?k); (case h => assumption))
  | ((with_reducible refine g_mul ?h ?k); (case h => decide))
  | ((with_reducible refine g_mod ?h ?k); (case h => first | decide | assumption | omega))
  | ((with_reducible refine g_div ?h ?l ?k); (case h => first | decide | assumption | omega); (case l => first | decide | assumption | omega))
  | ((with_reducible refine g_subM (xs := ?xs) (k := ?n) ?h ?j ?k); (case h => assumption); (case j => exact rfl); intro H' u hp)
  | ((with_reducible refine g_isi (t := ?t) (b := ?b) ?ty ?e ?k); (case ty => assumption); (case e => first | exact kit_NoneType_tuple | exact kit_NoneType_list | exact kit_NoneType_bool | exact kit_NoneType_int | exact kit_int_tuple | exact kit_int_list | exact kit_int_bool | exact kit_int_int | exact kit_list_tuple | exact kit_list_list | exact kit_list_bool | exact kit_list_int | exact kit_tuple_tuple | exact kit_tuple_list | exact kit_tuple_bool | exact kit_tuple_int))
  | ((with_reducible refine g_draw (l := ?l) (ns := ?ns) ?a ?b ?h ?k); (case a => first | decide | omega); (case b => first | decide | omega); (case h => walk_at "pl"); intro r H' h0 h1 hs pl)
  | ((with_reducible refine g_dgetS (v := ?v) (kvs := ?kvs) ?h ?e ?k); (case h => assumption); (case e => assumption))
  | with_reducible refine g_and ?_
  | with_reducible refine w_keys ?_
  | with_reducible refine w_rng3 ?_
  | with_reducible refine w_items ?_
  | with_reducible refine g_or ?_
  | with_reducible refine g_not ?_
  | with_reducible refine g_yes ?_
  | with_reducible refine g_tru ?_
  | with_reducible refine g_fld ?_
  | with_reducible refine g_meth ?_
  | with_reducible refine g_make ?_
  | with_reducible refine g_tupE ?_
  | with_reducible refine g_lstE ?_
  | with_reducible refine g_sl ?_
  | with_reducible refine g_part ?_
  | with_reducible refine g_nopart ?_
  | with_reducible refine g_bm ?_
  | with_reducible refine g_bm0 ?_
  | with_reducible refine g_if ?_
  | with_reducible refine g_un ?_
  | with_reducible refine g_isN ?_
  | with_reducible refine g_notN ?_
  | with_reducible refine g_andV ?_
  | with_reducible refine g_orV ?_
  | with_reducible refine g_notV ?_
  | with_reducible refine g_lc ?_
  | with_reducible refine g_dget ?_
  | with_reducible refine g_din ?_
  | with_reducible refine g_dnotin ?_
  | with_reducible refine g_fldS ?_
  | with_reducible refine g_dput ?_
  | with_reducible refine g_sub ?_
  | with_reducible refine g_consT ?_
  | with_reducible refine g_nilT ?_
  | ((with_reducible refine g_name (σ' := ?s) ?h ?k); (case h => (dsimp only [List.set]; exact rfl)))
  | with_reducible refine w_list ?_
  | with_reducible refine w_tup ?_
  | with_reducible refine w_rng1 ?_
  | with_reducible refine w_enumT ?_
  | with_reducible refine w_enum ?_
  | with_reducible refine w_zip ?_
  | with_reducible refine w_zipM ?_
  | with_reducible refine w_zipA ?_
  | with_reducible refine w_rng ?_
  | with_reducible refine g_int1 ?_
  | ((with_reducible refine g_ixT (M := ?m) (ds := ?ds) (d := ?d) ?c ?h ?e ?k); (case c => assumption); (case h => walk_at "is"); (case e => walk_at "at"); walk_at "sc")
  | ((with_reducible refine g_ixL (M := ?m) (ds := ?ds) (d := ?d) ?c ?h ?e ?k); (case c => assumption); (case h => walk_at "is"); (case e => walk_at "at"); walk_at "sc")
  | ((with_reducible refine g_lenL (M := ?m) (ds := ?ds) ?c ?h ?k); (case c => assumption); (case h => walk_at "is"))
  | ((with_reducible refine g_lenT (M := ?m) (ds := ?ds) ?c ?h ?k); (case c => assumption); (case h => walk_at "is")))
local macro_rules | `(tactic| walk_at "len") => `(tactic| ((try simp only [List.length_map, List.length_append, List.length_cons, List.length_nil, List.length_range, List.length_zip]); omega))
local macro_rules | `(tactic| walk_at "gg") => `(tactic| repeat walk_at "g")
theorem allFrom_snoc : ∀ (rs : List Row) (r : Row) (chs : List (List Nat)), allFrom (rs ++ [r]) chs = longer r (allFrom rs chs)
  | [], _, _ => rfl
  | a :: rs, r, chs => allFrom_snoc rs r (longer a chs)
theorem longer_len2 (r : Row) : ∀ chs : List (List Nat), (longer r chs).length = chs.length * r.length
  | [] => by simp [longer]
  | ch :: chs => by
    have ih := longer_len2 r chs
    show ((List.range r.length).map (fun k => ch ++ [k]) ++ longer r chs).length = _
    rw [List.length_append, List.length_map, List.length_range, ih, List.length_cons, Nat.add_mul, Nat.one_mul, Nat.add_comm]
theorem longer_take (r : Row) {chs : List (List Nat)} {j : Nat} {ch : List Nat} (h : chs[j]? = some ch) : longer r (chs.take (j + 1)) = longer r (chs.take j) ++ (List.range r.length).map fun k => ch ++ [k] := by
  unfold longer
  rw [List.take_add_one, h, List.flatMap_append]
  simp
def spChoices : Sp := SpF (fun s : List (List Size) => [encSS s]) (fun s => s.length ≤ 5 ∧ ∀ r ∈ s, r.length ≤ 3) fun s d => d = .list ((allOf (rowsOf s)).map encCh)
theorem encCh_snoc (ch : List Nat) (k : Nat) : encCh (ch ++ [k]) = .list ((ch.map fun k => PyData.int ((k : Nat) : Int)) ++ [.int ((k : Nat) : Int)]) := by
  unfold encCh
  rw [List.map_append]
  rfl
theorem r_choices {K : PySem.W.Frag} {vs : List V} {H : Hp} {Q : VK} {E : XK} {n b c : L2.St → Hp → Prop} (h : spChoices vs H Q E) : rd_w_choices K ⟨n, Q, b, c⟩ (start N_w_choices vs) H := by
  obtain ⟨M, sizes, dm, ⟨len5, row3⟩, hv, k⟩ := h
  obtain ⟨v, r, rfl, is1, hr⟩ := hv.cons_inv
  obtain rfl := hr.nil_inv
  have cu := Sg.cur M
  show rd_w_choices K _ [some v, none, none, none, none, none] H
  unfold rd_w_choices
  walk_at "gg"
  refine g_lstK cu dm (ds := []) (xs := []) .nil (by decide) (fun v1 H1 s1 isn => ?_)
  walk_at "gg"
  refine g_lstK cu (dm.mono s1) (ds := [.list []]) (.cons isn .nil) (Nat.le_of_ble_eq_true rfl) (fun v2 H2 s2 is2 => ?_)
  have s02 := s1.trans s2
  have dm2 := dm.mono s02
  have is12 := is1.mono (same_hol s02)
  clear is1
  walk_at "gg"
  refine for_map (enc := encRow) ‹Src _ (hol M H2) _› (fun i σ H' => ∃ (chs : List (List Nat)) (v1 : V) (o2 o3 o4 o5 : Option V), σ = [some v, some v1, o2, o3, o4, o5] ∧ chs = allFrom ((rowsOf sizes).take i) [[]] ∧ chs.length ≤ 3 ^ i ∧ Is (hol M H') (.list (chs.map encCh)) v1 ∧ Same H2 H')
    ⟨[[]], v2, none, none, none, none, rfl, rfl, by simp, is2, Same.refl _⟩ (fun j σ H' q => ?_) (fun i r y σ H3 H4 hi q s34 isx => ?_) (fun σ H3 q => ?_)
  · obtain ⟨_, _, _, _, _, _, _, _, _, _, s⟩ := q
    exact hol_le.trans s
  · obtain ⟨chs, v1, o2, o3, o4, o5, rfl, hchs, cl, isv, s3⟩ := q
    have il := (List.getElem?_eq_some_iff.mp hi).1
    have r3 := row3 r (List.mem_of_getElem? hi)
    have c3 : chs.length ≤ 81 := Nat.le_trans cl (Nat.pow_le_pow_right (by decide) (by omega : i ≤ 4))
    have dm3 := dm2.mono s3
    have isr := isx M dm3 (same_hol s3)
    have isv4 := isv.mono (same_hol s34)
    have dm4 := dm3.mono s34
    have rl : (rowOf r).length = r.length := by unfold rowOf; rw [List.length_map]
    clear isv
    walk_at "gg"
    unfold b3_w_choices
    walk_at "gg"
    refine g_lstM cu (Nat.le_of_ble_eq_true rfl) (fun L H5 hL s5 hL5 s5' s5'' => ?_)
    have nLM : L ∉ M := dm4.not hL
    have isv5 := isv4.mono s5'
    have isr5 := isr.mono s5'
    have dm5 : Dom (L :: M) H5 := .cons hL5 (dm4.mono s5)
    clear cu isv4 isr
    have cu := Sg.cur (L :: M)
    walk_at "gg"
    refine for_map (enc := encCh) ‹Src _ (hol (L :: M) H5) _› (fun j σ H' => ∃ (xs : List V) (o4 o5 : Option V), σ = [some v, some v1, some y, some (.ref L), o4, o5] ∧ H' L = some (.lst xs) ∧ IsA (hol (L :: M) H') ((longer (rowOf r) (chs.take j)).map encCh) xs ∧ Same (hol (L :: M) H5) (hol (L :: M) H') ∧ Dom (L :: M) H' ∧ Same (hol [L] H5) (hol [L] H'))
      ⟨[], _, _, rfl, hL5, .nil, Same.refl _, dm5, Same.refl _⟩ (fun j σ H' q => ?_) (fun j ch y2 σ H6 H7 hj q s67 isc => ?_) (fun σ H6 q => ?_)
    · obtain ⟨_, _, _, _, _, _, t, _⟩ := q
      exact t.trans hol_le
    · obtain ⟨xs, o4, o5, rfl, hL6, r6, t6, dm6, u6⟩ := q
      have jl := (List.getElem?_eq_some_iff.mp hj).1
      have isc7 := isc (L :: M) dm6 t6
      have hL7 := s67 _ _ hL6
      have t7 := t6.trans (same_hol s67)
      have dm7 := dm6.mono s67
      have r7 := r6.mono (same_hol (M := L :: M) s67)
      have u7 := u6.trans (same_hol (M := [L]) s67)
      have isr7 := isr5.mono t7
      have xl := r6.len
      rw [List.length_map, longer_len2, List.length_take, rl] at xl
      have xl' : xs.length ≤ 81 * 3 := by
        rw [xl]
        exact Nat.mul_le_mul (by omega) r3
      walk_at "gg"
      unfold b2_w_choices
      walk_at "gg"
      refine w_rng1K (n := r.length) (by rw [List.length_map]) (by omega) ?_
      refine for_map (l := List.range r.length) (enc := fun i : Nat => PyData.int ((i : Nat) : Int)) (src_range (B := fun _ => none)) (fun m σ H' => ∃ (zs : List V) (o5 : Option V), σ = [some v, some v1, some y, some (.ref L), some y2, o5] ∧ H' L = some (.lst zs) ∧ IsA (hol (L :: M) H') ((longer (rowOf r) (chs.take j) ++ (List.range m).map fun k => ch ++ [k]).map encCh) zs ∧ zs.length = xs.length + m ∧ Same (hol (L :: M) H7) (hol (L :: M) H') ∧ Dom (L :: M) H' ∧ Same (hol [L] H7) (hol [L] H'))
        ⟨xs, _, rfl, hL7, by simpa using r7, rfl, Same.refl _, dm7, Same.refl _⟩ (fun j σ H' q => ?_) (fun m a y3 σ H8 H9 hm q s89 isz => ?_) (fun σ H8 q => ?_)
      · exact fun _ _ e => (nomatch e)
      · obtain ⟨zs, o5, rfl, hL8, r8, zl, t8, dm8, u8⟩ := q
        obtain rfl := (isz [] .nil (fun _ _ e => (nomatch e))).int_inv
        obtain ⟨ml, me⟩ := List.getElem?_eq_some_iff.mp hm
        rw [List.length_range] at ml
        rw [List.getElem_range] at me
        subst me
        have t9 := t8.trans (same_hol s89)
        have hL9 := s89 _ _ hL8
        have dm9 := dm8.mono s89
        have isc9 := isc7.mono t9
        walk_at "gg"
        unfold b1_w_choices
        walk_at "gg"
        refine g_ty hL9 ?_
        walk_at "gg"
        refine g_lstK cu dm9 (ds := [.int ((m : Nat) : Int)]) (.cons (.int _) .nil) (Nat.le_of_ble_eq_true rfl) (fun vA HA sA isA => ?_)
        have iscA := isc9.mono (same_hol sA)
        have chl : ch.length < 50000 := by
          have : ch ∈ chs := List.mem_of_getElem? hj
          rw [hchs] at this
          obtain ⟨p, q, hp, hq, e⟩ := (all_mem _ _ _).mp this
          simp at hp
          subst hp
          rw [e, List.nil_append, hq.2, List.length_take, rowsOf_len]
          omega
        refine g_cat cu (dm9.mono sA) iscA isA (by rw [List.length_map, List.length_singleton]; omega) (fun vB HB sB isB => ?_)
        rw [← encCh_snoc] at isB
        walk_at "gg"
        have sAB := sA.trans sB
        refine g_app (sAB _ _ hL9) (by omega) (fun HC uC hLC => ?_)
        have tC : Same (hol (L :: M) H9) (hol (L :: M) HC) := (same_hol sAB).trans (uC.hol (by simp))
        refine ⟨_, _, rfl, hLC, ?_, by rw [List.length_append, List.length_singleton, zl]; omega, t9.trans tC, uC.dom hLC (dm9.mono sAB), ((u8.trans (same_hol (M := [L]) s89)).trans (same_hol (M := [L]) sAB)).trans (uC.hol (by simp))⟩
        rw [List.range_succ, List.map_append (l₁ := List.range m), ← List.append_assoc, List.map_append (l₂ := [m].map _)]
        exact ((r8.mono (same_hol (M := L :: M) s89)).mono tC).app (IsA.one (isB.mono (uC.hol (by simp))))
      · obtain ⟨zs, o5, rfl, hL8, r8, zl, t8, dm8, u8⟩ := q
        rw [List.length_range] at r8
        refine ⟨zs, _, _, rfl, hL8, ?_, t7.trans t8, dm8, u7.trans u8⟩
        rw [longer_take (rowOf r) hj, rl]
        exact r8
    · obtain ⟨xs, o4, o5, rfl, hL6, r6, t6, dm6, u6⟩ := q
      rw [List.take_length] at r6
      walk_at "gg"
      have s46 : Same H4 H6 := fun z o hz => by
        by_cases w : z = L
        · rw [w, hL] at hz; cases hz
        · exact ch_at u6 (by simp [w]) (s5 _ _ hz)
      refine ⟨longer (rowOf r) chs, _, _, _, _, _, rfl, ?_, ?_, lst_fin hL6 r6 nLM, (s3.trans s34).trans s46⟩
      · have e : (rowsOf sizes)[i]? = some (rowOf r) := by unfold rowsOf; rw [List.getElem?_map, hi]; rfl
        rw [List.take_add_one, e]
        show _ = allFrom ((rowsOf sizes).take i ++ [rowOf r]) [[]]
        rw [allFrom_snoc, hchs]
      · rw [longer_len2, rl, Nat.pow_succ]
        exact Nat.mul_le_mul cl r3
  · obtain ⟨chs, v1, o2, o3, o4, o5, rfl, hchs, cl, isv, s3⟩ := q
    rw [← rowsOf_len, List.take_length] at hchs
    walk_at "gg"
    refine k _ _ _ ?_ (s02.trans s3) isv
    rw [hchs]
    rfl
theorem ok_choices {P : Program} {w : World} {K : PySem.W.Frag} {mg : Str → Option Value} {base : Heap} {f : Addr} {fd : FuncData} (F : Fun K "_law_choices" "_law_choices" s_w_choices f fd) (T : Bl mg) : FnOk P w K mg base CX0 1 f fd ["_law_sizes_here"] spChoices :=
  F.ok sc_w_choices (fun vs H Q E h => SpF.len (n := 1) (fun _ => rfl) h) fun cdv A outer s H vs Q E hr h => ⟨_, dv_w_choices T hr, r_choices h⟩

end Sg
namespace Sg
open PySem PySem.Spec PyProof.Rows L2
local macro_rules | `(tactic| walk_at "ey") => `(tactic| first
  | exact Same.refl _
  | exact hol_le
  | assumption
  | (refine Same.on ?r (same_hol (H := ?b) ?h); (case h => assumption); walk_at "ey")
  | (refine Same.on ?r (Upd.hol (l := ?l) (H := ?b) ?h ?m); (case h => assumption); (case m => simp); walk_at "ey")
  | (refine Same.on ?r (weak1 (p := ?p) (A := ?b) ?n ?h); (case h => assumption); (case n => simp); walk_at "ey")
  | (refine Same.on (B := ?b) ?r ?h; (case h => assumption); walk_at "ey")
  | (refine Same.on ?r (same1 (A := ?b) ?h); (case h => assumption); walk_at "ey")
  | (refine Same.on ?r (same2 (A := ?b) ?h); (case h => assumption); walk_at "ey"))
local macro_rules | `(tactic| walk_at "ex") => `(tactic| first
  | exact Same.refl _
  | exact hol_le
  | assumption
  | (refine Same.on ?r (same_hol (H := ?b) ?h); (case h => assumption); walk_at "ex")
  | (refine Same.on ?r (Upd.hol (l := ?l) (H := ?b) ?h ?m); (case h => assumption); (case m => simp); walk_at "ex")
  | (refine Same.on ?r (weak1 (p := ?p) (A := ?b) ?n ?h); (case h => assumption); (case n => simp); walk_at "ex")
  | (refine Same.on (B := ?b) ?r ?h; (case h => assumption); walk_at "ex")
  | (refine Same.on ?r (same1 (A := ?b) ?h); (case h => assumption); walk_at "ex")
  | (refine Same.on ?r (same2 (A := ?b) ?h); (case h => assumption); walk_at "ex")
  | (refine Same.on ?r (hol_le (M := ?m)); walk_at "ey"))
local macro_rules | `(tactic| walk_at "dom") => `(tactic| first
  | assumption
  | exact Dom.nil
  | (refine Dom.mono (H := ?b) ?h ?d; (case h => assumption); walk_at "dom")
  | (refine dom_draw (p := ?p) (l := ?l) (ns := ?ns) (A := ?b) ?h ?c ?d; (case h => assumption); (case c => assumption); walk_at "dom")
  | (refine Dom.cons (o := ?o) ?h ?d; (case h => assumption); walk_at "dom")
  | (refine Dom.holm (A := ?b) (N := ?n) ?h ?d; (case h => assumption); walk_at "dom")
  | (refine Upd.dom (l := ?l) (H := ?b) (o := ?o) ?h ?e ?d; (case h => assumption); (case e => assumption); walk_at "dom"))
local macro_rules | `(tactic| walk_at "pl") => `(tactic| first
  | assumption
  | (refine Pl.same (A := ?b) ?s ?h; (case s => assumption); walk_at "pl"))
local macro_rules | `(tactic| walk_at "is") => `(tactic| first
  | assumption
  | exact Is.int _
  | exact Is.str _
  | exact Is.bl _
  | exact Is.non
  | (refine Is.mono (H := ?b) ?s ?h; (case h => assumption); walk_at "ex"))
local macro_rules | `(tactic| walk_at "isa") => `(tactic| first
  | exact IsA.nil
  | (refine IsA.cons (d := ?x) (ds := ?xs) ?a ?b; (case a => walk_at "is"); (case b => walk_at "isa"))
  | (refine IsA.mono (H := ?b) ?s ?h; (case h => assumption); walk_at "ex"))
local macro_rules | `(tactic| walk_at "at") => `(tactic| first
  | exact at0
  | exact at1
  | exact at2
  | exact at3
  | exact at4
  | (refine atM (a := ?a) ?h; (case h => assumption))
  | (refine atJ (a := ?a) ?h; (case h => assumption)))
local macro_rules | `(tactic| walk_at "sc") => `(tactic| (intro v hv; first
  | ((with_reducible have e := Is.int_inv hv); subst e; clear hv)
  | ((with_reducible have e := Is.str_inv hv); subst e; clear hv)
  | ((with_reducible have e := Is.bool_inv hv); subst e; clear hv)
  | ((with_reducible have e := Is.none_inv hv); subst e; clear hv)
  | skip))
local macro_rules | `(tactic| walk_at "g") => `(tactic| first
  | with_reducible refine g_seq ?_
  | with_reducible refine g_asg ?_
  | with_reducible refine g_ret ?_
  | with_reducible refine g_drop ?_
  | with_reducible refine g_ifS ?_
  | with_reducible refine g_next ?_
  | with_reducible refine g_break ?_
  | with_reducible refine g_for ?_
  | with_reducible refine g_op ?_
  | ((with_reducible refine g_var (v := ?v) ?h ?k); (case h => exact rfl))
  | with_reducible refine g_c ?_
  | with_reducible refine g_I0 ?_
  | with_reducible refine g_U ?_
  | with_reducible refine g_cons ?_
  | with_reducible refine g_nil ?_
  | with_reducible refine g_cb ?_
  | with_reducible refine g_call ?_
  | with_reducible refine g_test ?_
  | with_reducible refine g_bl ?_
  | with_reducible refine g_int ?_
  | with_reducible refine g_B ?_
  | ((with_reducible refine g_wipe ?e ?k); (case e => exact rfl))
  | with_reducible refine g_iteT ?_
  | with_reducible refine g_iteF ?_
  | with_reducible refine g_iteNT ?_
  | with_reducible refine g_iteNF ?_
  | with_reducible refine g_andK ?_
  | with_reducible refine g_orK ?_
  | with_reducible refine g_notK ?_
  | ((with_reducible refine w_tupK (B := ?b) (ds := ?ds) ?s ?h ?k); (case h => assumption); (case s => walk_at "ex"); intro a S)
  | ((with_reducible refine w_listK (B := ?b) (ds := ?ds) ?s ?h ?k); (case h => assumption); (case s => walk_at "ex"); intro a S)
  | ((with_reducible refine w_enumK (B := ?b) (ds := ?ds) ?s ?h ?k); (case h => assumption); (case s => walk_at "ex"); intro a S)
  | ((with_reducible refine w_enumTK (B := ?b) (ds := ?ds) ?s ?h ?k); (case h => assumption); (case s => walk_at "ex"); intro a S)
  | ((with_reducible refine w_zipK (B := ?b) (ds := ?ds) (es := ?es) ?s ?h ?h' ?k); (case h => assumption); (case h' => walk_at "is"); (case s => walk_at "ex"); intro a b S)
  | ((with_reducible refine w_zipMK (B := ?b) (ds := ?ds) (es := ?es) ?s ?h ?h' ?k); (case h => assumption); (case h' => walk_at "is"); (case s => walk_at "ex"); intro a b S)
  | ((with_reducible refine w_zipTK (B := ?b) (ds := ?ds) (es := ?es) ?s ?h ?h' ?k); (case h => assumption); (case h' => walk_at "is"); (case s => walk_at "ex"); intro a b S)
  | ((with_reducible refine g_listOf (M := ?m) (ds := ?ds) ?c ?d ?h ?k); (case c => assumption); (case d => walk_at "dom"); (case h => first | (refine Or.inl ?_; walk_at "is") | (refine Or.inr ?_; walk_at "is")); intro v H' hs hv)
  | ((with_reducible refine g_tupOf (M := ?m) (ds := ?ds) ?c ?d ?h ?k); (case c => assumption); (case d => walk_at "dom"); (case h => walk_at "is"); intro v H' hs hv)
  | ((with_reducible refine g_tupK (M := ?m) (ds := ?ds) ?c ?d ?h ?l ?k); (case c => assumption); (case d => walk_at "dom"); (case h => walk_at "isa"); (case l => (simp only [List.length_cons, List.length_nil]; omega)); intro v H' hs hv)
  | ((with_reducible refine g_tupT (M := ?m) (ds := ?ds) ?c ?h ?e ?k); (case c => assumption); (case h => walk_at "is"); (case e => rfl); intro xs hxs)
  | ((with_reducible refine g_fldK (C := ?c) (dx := ?dx) (fs := ?fs) (v := ?v) ?h ?cl ?na ?l ?k); (case h => assumption); (case cl => assumption); (case na => assumption); (case l => first | assumption | exact rfl))
  | ((with_reducible refine g_fldM (C := ?c) (dx := ?dx) (fs := ?fs) ?h ?cl ?na ?hl ?k); (case h => assumption); (case cl => assumption); (case na => assumption); (case hl => exact Nat.le_of_ble_eq_true rfl); intro H' u hx)
  | ((with_reducible refine g_ixM (xs := ?xs) (v := ?v) ?h ?e ?k); (case h => assumption); (case e => first | exact at0 | exact at1 | exact at2 | exact at3 | exact at4))
  | ((with_reducible refine g_lenM (xs := ?xs) ?h ?k); (case h => assumption))
  | ((with_reducible refine g_mul ?h ?k); (case h => decide))
  | ((with_reducible refine g_mod ?h ?k); (case h => first | decide | assumption | omega))
  | ((with_reducible refine g_div ?h ?l ?k); (case h => first | decide | assumption | omega); (case l => first | decide | assumption | omega))
  | ((with_reducible refine g_subM (xs := ?xs) (k := ?n) ?h ?j ?k); (case h => assumption); (case j => exact rfl); intro H' u hp)
  | ((with_reducible refine g_isi (t := ?t) (b := ?b) ?ty ?e ?k); (case ty => assumption); (case e => first | exact kit_NoneType_tuple | exact kit_NoneType_list | exact kit_NoneType_bool | exact kit_NoneType_int | exact kit_int_tuple | exact kit_int_list | exact kit_int_bool | exact kit_int_int | exact kit_list_tuple | exact kit_list_list | exact kit_list_bool | exact kit_list_int | exact kit_tuple_tuple | exact kit_tuple_list | exact kit_tuple_bool | exact kit_tuple_int))
  | ((with_reducible refine g_draw (l := ?l) (ns := ?ns) ?a ?b ?h ?k); (case a => first | decide | omega); (case b => first | decide | omega); (case h => walk_at "pl"); intro r H' h0 h1 hs pl)
  | ((with_reducible refine g_dgetS (v := ?v) (kvs := ?kvs) ?h ?e ?k); (case h => assumption); (case e => assumption))
  | with_reducible refine g_and ?_
  | with_reducible refine w_keys ?_
  | with_reducible refine w_rng3 ?_
  | with_reducible refine w_items ?_
  | with_reducible refine g_or ?_
  | with_reducible refine g_not ?_
  | with_reducible refine g_yes ?_
  | with_reducible refine g_tru ?_
  | with_reducible refine g_fld ?_
  | with_reducible refine g_meth ?_
  | with_reducible refine g_make ?_
  | with_reducible refine g_tupE ?_
  | with_reducible refine g_lstE ?_
  | with_reducible refine g_sl ?_
  | with_reducible refine g_part ?_
  | with_reducible refine g_nopart ?_
  | with_reducible refine g_bm ?_
  | with_reducible refine g_bm0 ?_
  | with_reducible refine g_if ?_
  | with_reducible refine g_un ?_
  | with_reducible refine g_isN ?_
  | with_reducible refine g_notN ?_
  | with_reducible refine g_andV ?_
  | with_reducible refine g_orV ?_
  | with_reducible refine g_notV ?_
  | with_reducible refine g_lc ?_
  | with_reducible refine g_dget ?_
  | with_reducible refine g_din ?_
  | with_reducible refine g_dnotin ?_
  | with_reducible refine g_fldS ?_
  | with_reducible refine g_dput ?_
  | with_reducible refine g_sub ?_
  | with_reducible refine g_consT ?_
  | with_reducible refine g_nilT ?_
  | ((with_reducible refine g_name (σ' := ?s) ?h ?k); (case h => (dsimp only [List.set]; exact rfl)))
  | with_reducible refine w_list ?_
  | with_reducible refine w_tup ?_
  | with_reducible refine w_rng1 ?_
  | with_reducible refine w_enumT ?_
  | with_reducible refine w_enum ?_
  | with_reducible refine w_zip ?_
  | with_reducible refine w_zipM ?_
  | with_reducible refine w_zipA ?_
  | with_reducible refine w_rng ?_
  | with_reducible refine g_int1 ?_
  | ((with_reducible refine g_ixT (M := ?m) (ds := ?ds) (d := ?d) ?c ?h ?e ?k); (case c => assumption); (case h => walk_at "is"); (case e => walk_at "at"); walk_at "sc")
  | ((with_reducible refine g_ixL (M := ?m) (ds := ?ds) (d := ?d) ?c ?h ?e ?k); (case c => assumption); (case h => walk_at "is"); (case e => walk_at "at"); walk_at "sc")
  | ((with_reducible refine g_lenL (M := ?m) (ds := ?ds) ?c ?h ?k); (case c => assumption); (case h => walk_at "is"))
  | ((with_reducible refine g_lenT (M := ?m) (ds := ?ds) ?c ?h ?k); (case c => assumption); (case h => walk_at "is")))
local macro_rules | `(tactic| walk_at "len") => `(tactic| ((try simp only [List.length_map, List.length_append, List.length_cons, List.length_nil, List.length_range, List.length_zip]); omega))
local macro_rules | `(tactic| walk_at "gg") => `(tactic| repeat walk_at "g")
def RowP (w : Nat) (s : Size) : Prop := s.2.length = w ∧ 0 ≤ s.1 ∧ ∀ q ∈ s.2, 0 ≤ q.1 ∧ q.1 + 2 ≤ q.2
def RowsP (w : Nat) (r : List Size) : Prop := r ≠ [] ∧ r.length ≤ 3 ∧ ∀ s ∈ r, RowP w s
def SizesP (c : Circ) (sizes : List (List Size)) : Prop := ∀ (j : Nat) r g, sizes[j]? = some r → c.gates[j]? = some g → RowsP g.nets.length r
theorem SizesP.ok {c : Circ} {sizes : List (List Size)} (h : SizesP c sizes) (hl : sizes.length = c.gates.length) : SzOk c sizes ∧ ∀ r ∈ sizes, r.length ≤ 3 := by
  have get : ∀ r ∈ sizes, ∃ w, RowsP w r := fun r hr => by
    obtain ⟨i, hi⟩ := List.getElem?_of_mem hr
    have hi' := (List.getElem?_eq_some_iff.mp hi).1
    exact ⟨_, h i r _ hi (List.getElem?_eq_getElem (by omega : i < c.gates.length))⟩
  refine ⟨⟨hl, fun r hr => ?_, fun i g r hg hr s hs => ((h i r g hr hg).2.2 s hs).1, fun r hr s hs => ?_, fun r hr s hs => ?_, fun r hr => ?_⟩, fun r hr => ?_⟩
  · obtain ⟨w, h⟩ := get r hr
    exact h.1
  · obtain ⟨w, h⟩ := get r hr
    exact (h.2.2 s hs).2.1
  · obtain ⟨w, h⟩ := get r hr
    exact (h.2.2 s hs).2.2
  · obtain ⟨w, h⟩ := get r hr
    have := h.2.1
    omega
  · obtain ⟨w, h⟩ := get r hr
    exact h.2.1
theorem SizesP.snoc {c : Circ} {sizes : List (List Size)} {r : List Size} {g : Gate} (h : SizesP c sizes) (hg : c.gates[sizes.length]? = some g) (hr : RowsP g.nets.length r) : SizesP c (sizes ++ [r]) := fun j r' g' e1 e2 => by
  rw [List.getElem?_append] at e1
  by_cases q : j < sizes.length
  · rw [if_pos q] at e1
    exact h j r' g' e1 e2
  · rw [if_neg q] at e1
    have : j - sizes.length = 0 := by
      have := (List.getElem?_eq_some_iff.mp e1).1
      simp at this
      omega
    have e : j = sizes.length := by omega
    rw [this] at e1
    simp at e1
    subst e1
    rw [e, hg] at e2
    cases e2
    exact hr
def spSizes : Sp := fun vs H Q _ => ∃ (p l : Addr) (ns : List Int) (M : List Addr) (cv : V) (c : Circ), vs = [.ref p, cv] ∧ Dom (p :: M) H ∧ Pl p l ns H ∧ Is (hol (p :: M) H) (encC c) cv ∧ Sound c ∧
  ∀ (sizes : List (List Size)) v H', Same (hol [p] H) (hol [p] H') → Pl p l ns H' → Is (hol (p :: M) H') (encSS sizes) v → SzOk c sizes → (∀ r ∈ sizes, r.length ≤ 3) → Q v H'
theorem r_sizes {K : PySem.W.Frag} {vs : List V} {H : Hp} {Q : VK} {E : XK} {n b c : L2.St → Hp → Prop} (h : spSizes vs H Q E) : rd_w_sizes K spDraw ⟨n, Q, b, c⟩ (start N_w_sizes vs) H := by
  obtain ⟨p, l, ns, M, cv, ci, rfl, dm, pl, isc, S, k⟩ := h
  have few2 := S.few2
  have cu := Sg.cur (p :: M)
  show rd_w_sizes K _ _ [some (.ref p), some cv, none, none, none, none, none, none, none] H
  unfold rd_w_sizes
  walk_at "gg"
  refine g_lstM cu (Nat.le_of_ble_eq_true rfl) (fun L1 H1 hL1 s1 h1 s1' s1'' => ?_)
  have pl1 := pl.same s1
  obtain ⟨n1p, n1l⟩ := pl_ne pl hL1
  have n1M : L1 ∉ p :: M := dm.not hL1
  have dm1 : Dom (L1 :: p :: M) H1 := .cons h1 (dm.mono s1)
  have isc1 := isc.mono s1'
  clear isc cu
  have cu := Sg.cur (L1 :: p :: M)
  walk_at "gg"
  refine for_map (enc := encG) ‹Src _ (hol (L1 :: p :: M) H1) _› (fun i σ H' => ∃ (sizes : List (List Size)) (xs : List V) (o3 o4 o5 o6 o7 o8 : Option V), σ = [some (.ref p), some cv, some (.ref L1), o3, o4, o5, o6, o7, o8] ∧
    H' L1 = some (.lst xs) ∧ IsA (hol (L1 :: p :: M) H') (sizes.map encRow) xs ∧ sizes.length = i ∧ SizesP ci sizes ∧ Pl p l ns H' ∧ Dom (L1 :: p :: M) H' ∧ Same (hol [L1, p] H1) (hol [L1, p] H')) ⟨[], [], none, none, none, none, none, none, rfl, h1, .nil, rfl, fun j r g e => by simp at e, pl1, dm1, Same.refl _⟩ (fun j σ H' q => ?_) (fun i g y σ H2 H3 hg q s23 isg => ?_) (fun σ H2 q => ?_)
  · obtain ⟨_, _, _, _, _, _, _, _, _, _, _, _, _, _, _, s⟩ := q
    exact (ch_is s (by simp)).trans hol_le
  · obtain ⟨sizes, xs, o3, o4, o5, o6, o7, o8, rfl, h2, r2, sl, sp, pl2, dm2, u2⟩ := q
    have il := (List.getElem?_eq_some_iff.mp hg).1
    have pins := S.pins g (List.mem_of_getElem? hg)
    have isg3 := isg (L1 :: p :: M) dm2 (ch_is u2 (by simp))
    have h3 := s23 _ _ h2
    have r3 := r2.mono (same_hol (M := L1 :: p :: M) s23)
    have pl3 := pl2.same s23
    have dm3 := dm2.mono s23
    have u3 := u2.trans (same_hol (M := [L1, p]) s23)
    have xl := r2.len
    rw [List.length_map] at xl
    walk_at "gg"
    unfold b3_w_sizes
    walk_at "gg"
    refine g_lstM cu (Nat.le_of_ble_eq_true rfl) (fun L2 H4 hL2 s4 h4 s4' s4'' => ?_)
    have pl4 := pl3.same s4
    obtain ⟨n2p, n2l⟩ := pl_ne pl3 hL2
    have n2N : L2 ∉ L1 :: p :: M := dm3.not hL2
    have dm4 : Dom (L2 :: L1 :: p :: M) H4 := .cons h4 (dm3.mono s4)
    have isg4 := isg3.mono s4'
    clear isg3 cu pl pl1 pl2
    have cu := Sg.cur (L2 :: L1 :: p :: M)
    walk_at "gg"
    rename_i rn H5 rn0 rn1 s5 pl5
    have h5 := ch_at s5 (by simp [n2p]) h4
    have dm5 := dom_draw s5 pl5 dm4
    have isg5 := isg4.mono (weak1 (M := L2 :: L1 :: p :: M) (by simp) s5)
    have u5 : Same (hol [L2, p] H4) (hol [L2, p] H5) := weak1 (by simp) s5
    clear isg4 pl4
    refine w_rng1K (n := (1 + rn).toNat) (by omega) (by omega) ?_
    have hn1 : 0 < (1 + rn).toNat := by omega
    have hn3 : (1 + rn).toNat ≤ 3 := by omega
    generalize (1 + rn).toNat = nr at hn1 hn3
    refine for_map (l := List.range nr) (enc := fun i : Nat => PyData.int ((i : Nat) : Int)) (src_range (B := fun _ => none)) (fun m σ H' => ∃ (rows : List Size) (zs : List V) (o5 o6 o7 o8 : Option V), σ = [some (.ref p), some cv, some (.ref L1), some y, some (.ref L2), o5, o6, o7, o8] ∧
      H' L2 = some (.lst zs) ∧ IsA (hol (L2 :: L1 :: p :: M) H') (rows.map encS) zs ∧ rows.length = m ∧ (∀ s ∈ rows, RowP g.nets.length s) ∧ Pl p l ns H' ∧ Dom (L2 :: L1 :: p :: M) H' ∧ Same (hol [L2, p] H5) (hol [L2, p] H')) ⟨[], [], _, _, _, _, rfl, h5, .nil, rfl, by simp, pl5, dm5, Same.refl _⟩ (fun j σ H' q => ?_) (fun m a w σ H6 H7 hm q s67 isx => ?_) (fun σ H6 q => ?_)
    · exact fun _ _ e => (nomatch e)
    · obtain ⟨rows, zs, o5, o6, o7, o8, rfl, h6, r6, rl, rp, pl6, dm6, u6⟩ := q
      have ml := (List.getElem?_eq_some_iff.mp hm).1
      rw [List.length_range] at ml
      have h7 := s67 _ _ h6
      have pl7 := pl6.same s67
      have dm7 := dm6.mono s67
      have r7 := r6.mono (same_hol (M := L2 :: L1 :: p :: M) s67)
      have u7 := u6.trans (same_hol (M := [L2, p]) s67)
      have isg7 := isg5.mono (ch_is u7 (by simp))
      have zl := r6.len
      rw [List.length_map] at zl
      walk_at "gg"
      unfold b2_w_sizes
      walk_at "gg"
      refine g_lstM cu (Nat.le_of_ble_eq_true rfl) (fun L3 HE hL3 sE hrE sE' sE'' => ?_)
      have plE := pl7.same sE
      obtain ⟨nrp, nrl⟩ := pl_ne pl7 hL3
      have nrN : L3 ∉ L2 :: L1 :: p :: M := dm7.not hL3
      have isgE := isg7.mono sE'
      have dmE : Dom (L3 :: L2 :: L1 :: p :: M) HE := .cons hrE (dm7.mono sE)
      clear cu isg7 pl6
      have cu := Sg.cur (L3 :: L2 :: L1 :: p :: M)
      walk_at "gg"
      refine for_map ‹Src _ (hol (L3 :: L2 :: L1 :: p :: M) HE) (g.nets.map PyData.str)› (fun i σ H' => ∃ (rg : List (Int × Int)) (xs : List V) (o7 o8 : Option V), σ = [some (.ref p), some cv, some (.ref L1), some y, some (.ref L2), some w, some (.ref L3), o7, o8] ∧
        H' L3 = some (.lst xs) ∧ IsA (hol (L3 :: L2 :: L1 :: p :: M) H') (rg.map encP) xs ∧ rg.length = i ∧ (∀ q ∈ rg, 0 ≤ q.1 ∧ q.1 + 2 ≤ q.2) ∧ Pl p l ns H' ∧ Dom (L3 :: L2 :: L1 :: p :: M) H' ∧ Same (hol [L3, p] HE) (hol [L3, p] H')) ⟨[], [], _, _, rfl, hrE, .nil, rfl, by simp, plE, dmE, Same.refl _⟩ (fun j σ H' q => ?_) (fun i a y σ HF HG haF q sFG isx => ?_) (fun σ HF q => ?_)
      · obtain ⟨_, _, _, _, _, _, _, _, _, _, _, s6⟩ := q
        exact (ch_is s6 (by simp)).trans hol_le
      · obtain ⟨rg, xs, o7, o8, rfl, hrF, rF, rl, rq, plF, dmF, sF⟩ := q
        have il := (List.getElem?_eq_some_iff.mp haF).1
        have hrG := sFG _ _ hrF
        have plG := plF.same sFG
        have dmG := dmF.mono sFG
        have xl := rF.len
        rw [List.length_map] at xl
        walk_at "gg"
        unfold b1_w_sizes
        walk_at "gg"
        rename_i rI HI rI0 rI1 sI plI
        have hrI := ch_at sI (by simp [nrp]) hrG
        refine g_ty hrI ?_
        have dmI : Dom (L3 :: L2 :: L1 :: p :: M) HI := dom_draw sI plI dmG
        walk_at "gg"
        rename_i rJ HJ rJ0 rJ1 sJ plJ vK HK sK isK
        have hrK := sK _ _ (ch_at sJ (by simp [nrp]) hrI)
        refine g_app hrK (by omega) (fun HO u hrO => ?_)
        have tO : Same (hol (L3 :: L2 :: L1 :: p :: M) HF) (hol (L3 :: L2 :: L1 :: p :: M) HO) := ((((same_hol sFG).trans (weak1 (by simp) sI)).trans (weak1 (by simp) sJ)).trans (same_hol sK)).trans (u.hol (by simp))
        refine ⟨rg ++ [(rI, rI + 2 + rJ)], _, _, _, rfl, hrO, ?_, by rw [List.length_append, List.length_singleton, rl], fun q hq => ?_, (plJ.same sK).upd u nrp nrl, u.dom hrO ((dom_draw sJ plJ dmI).mono sK), ?_⟩
        · rw [List.map_append]
          exact (rF.mono tO).app (IsA.one (isK.mono (u.hol (by simp))))
        · rcases List.mem_append.mp hq with z | z
          · exact rq q z
          · simp at z
            rw [z]
            exact ⟨rI0, by show rI + 2 ≤ rI + 2 + rJ; omega⟩
        · exact ((((sF.trans (same_hol (M := [L3, p]) sFG)).trans (weak1 (M := [L3, p]) (by simp) sI)).trans (weak1 (M := [L3, p]) (by simp) sJ)).trans (same_hol (M := [L3, p]) sK)).trans (u.hol (by simp))
      · obtain ⟨rg, xs', o7, o8, rfl, hrF, rF, rl', rq, plF, dmF, sF⟩ := q
        have s7F := ch_new sE'' sF
        have t7F : Same (hol (L2 :: L1 :: p :: M) H7) (hol (L2 :: L1 :: p :: M) HF) := weak1 (by simp) s7F
        have isR : Is (hol (L2 :: L1 :: p :: M) HF) (.list (rg.map encP)) (.ref L3) := lst_fin hrF rF nrN
        have hF2 := ch_at s7F (by simp [n2p]) h7
        have dmF2 : Dom (L2 :: L1 :: p :: M) HF := dom_draw s7F plF dm7
        clear cu isgE plE dmE
        have cu := Sg.cur (L2 :: L1 :: p :: M)
        walk_at "gg"
        refine g_ty hF2 ?_
        walk_at "gg"
        rename_i rD HD rD0 rD1 sD plD vT HT sT isT vU HU sU isU
        have hU2 := (sT.trans sU) _ _ (ch_at sD (by simp [n2p]) hF2)
        refine g_app hU2 (by omega) (fun HV uV hV2 => ?_)
        have tFV : Same (hol (L2 :: L1 :: p :: M) HF) (hol (L2 :: L1 :: p :: M) HV) := ((weak1 (by simp) sD).trans (same_hol (sT.trans sU))).trans (uV.hol (by simp))
        refine ⟨rows ++ [(rD, rg)], _, _, _, _, _, rfl, hV2, ?_, by rw [List.length_append, List.length_singleton, rl], fun s hs => ?_, ((plD.same sT).same sU).upd uV n2p n2l, uV.dom hV2 (((dom_draw sD plD dmF2).mono sT).mono sU), ?_⟩
        · rw [List.map_append]
          exact ((r7.mono t7F).mono tFV).app (IsA.one (isU.mono (uV.hol (by simp))))
        · rcases List.mem_append.mp hs with z | z
          · exact rp s z
          · simp at z
            rw [z]
            exact ⟨by show rg.length = _; rw [rl'], rD0, rq⟩
        · exact (((u7.trans (weak1 (M := [L2, p]) (by simp) s7F)).trans (weak1 (M := [L2, p]) (by simp) sD)).trans (same_hol (M := [L2, p]) (sT.trans sU))).trans (uV.hol (by simp))
    · obtain ⟨rows, zs, o5, o6, o7, o8, rfl, h6, r6, rl, rp, pl6, dm6, u6⟩ := q
      rw [List.length_range] at rl
      have s36 := ch_new s4'' (u5.trans u6)
      have t36 : Same (hol (L1 :: p :: M) H3) (hol (L1 :: p :: M) H6) := weak1 (by simp) s36
      have isR : Is (hol (L1 :: p :: M) H6) (encRow rows) (.ref L2) := lst_fin h6 r6 n2N
      have h61 := ch_at s36 (by simp [n1p]) h3
      clear cu isg5
      have cu := Sg.cur (L1 :: p :: M)
      walk_at "gg"
      refine g_ty h61 ?_
      walk_at "gg"
      refine g_app h61 (by omega) (fun H8 u8 h8 => ?_)
      refine ⟨sizes ++ [rows], _, _, _, _, _, _, _, rfl, h8, ?_, by rw [List.length_append, List.length_singleton, sl], sp.snoc (by rw [sl]; exact hg) ⟨fun e => ?_, by omega, rp⟩, pl6.upd u8 n1p n1l, u8.dom h8 (dom_draw s36 pl6 dm3), (u3.trans (weak1 (M := [L1, p]) (by simp) s36)).trans (u8.hol (by simp))⟩
      · rw [List.map_append]
        exact ((r3.mono t36).mono (u8.hol (by simp))).app (IsA.one (isR.mono (u8.hol (by simp))))
      · rw [e] at rl
        simp at rl
        omega
  · obtain ⟨sizes, xs, o3, o4, o5, o6, o7, o8, rfl, h2, r2, sl, sp, pl2, dm2, u2⟩ := q
    obtain ⟨z1, z2⟩ := sp.ok sl
    walk_at "gg"
    exact k sizes _ _ (ch_new s1'' u2) pl2 (lst_fin h2 r2 n1M) z1 z2
theorem ok_sizes {P : Program} {w : World} {K : PySem.W.Frag} {mg : Str → Option Value} {base : Heap} {f : Addr} {fd : FuncData} (F : Fun K "_law_sizes" "_law_sizes" s_w_sizes f fd) (T : Bl mg) (c1 : Cal P w K mg base 2 "_law_draw" spDraw) : FnOk P w K mg base CX0 3 f fd ["_law_pool_here", "_law_circuit_here"] spSizes :=
  F.ok sc_w_sizes (fun vs H Q E h => by
    obtain ⟨_, _, _, _, _, _, rfl, _⟩ := h
    rfl) fun cdv A outer s H vs Q E hr h => ⟨_, dv_w_sizes T c1 hr, r_sizes h⟩

end Sg
namespace Sg
open PySem PySem.Spec PyProof.Rows L2
theorem g_isi {K : PySem.W.Frag} {H : Hp} {Q : VK} {x : V} {t u : String} {b : Bool} (ty : L2.TyX K H x (.type t)) (e : PySem.W.kitOne K (.type t) (.type u) = some b) (k : Q (.bl b) H) : rIsi K [x, .ty u] H Q :=
  ⟨x, .ty u, _, _, b, rfl, .ty u, ty, e, k⟩
theorem kit_NoneType_tuple {K : PySem.W.Frag} : PySem.W.kitOne K (.type "NoneType") (.type "tuple") = some false := by rfl
theorem kit_NoneType_list {K : PySem.W.Frag} : PySem.W.kitOne K (.type "NoneType") (.type "list") = some false := by rfl
theorem kit_NoneType_bool {K : PySem.W.Frag} : PySem.W.kitOne K (.type "NoneType") (.type "bool") = some false := by rfl
theorem kit_NoneType_int {K : PySem.W.Frag} : PySem.W.kitOne K (.type "NoneType") (.type "int") = some false := by rfl
theorem kit_int_tuple {K : PySem.W.Frag} : PySem.W.kitOne K (.type "int") (.type "tuple") = some false := by rfl
theorem kit_int_list {K : PySem.W.Frag} : PySem.W.kitOne K (.type "int") (.type "list") = some false := by rfl
theorem kit_int_bool {K : PySem.W.Frag} : PySem.W.kitOne K (.type "int") (.type "bool") = some false := by rfl
theorem kit_int_int {K : PySem.W.Frag} : PySem.W.kitOne K (.type "int") (.type "int") = some true := if_pos (beq_self_eq_true _)
theorem kit_list_tuple {K : PySem.W.Frag} : PySem.W.kitOne K (.type "list") (.type "tuple") = some false := by rfl
theorem kit_list_list {K : PySem.W.Frag} : PySem.W.kitOne K (.type "list") (.type "list") = some true := if_pos (beq_self_eq_true _)
theorem kit_list_bool {K : PySem.W.Frag} : PySem.W.kitOne K (.type "list") (.type "bool") = some false := by rfl
theorem kit_list_int {K : PySem.W.Frag} : PySem.W.kitOne K (.type "list") (.type "int") = some false := by rfl
theorem kit_tuple_tuple {K : PySem.W.Frag} : PySem.W.kitOne K (.type "tuple") (.type "tuple") = some true := if_pos (beq_self_eq_true _)
theorem kit_tuple_list {K : PySem.W.Frag} : PySem.W.kitOne K (.type "tuple") (.type "list") = some false := by rfl
theorem kit_tuple_bool {K : PySem.W.Frag} : PySem.W.kitOne K (.type "tuple") (.type "bool") = some false := by rfl
theorem kit_tuple_int {K : PySem.W.Frag} : PySem.W.kitOne K (.type "tuple") (.type "int") = some false := by rfl
end Sg
namespace Sg
open PySem PySem.Spec PyProof.Rows L2
local macro_rules | `(tactic| walk_at "ey") => `(tactic| first
  | exact Same.refl _
  | exact hol_le
  | assumption
  | (refine Same.on ?r (same_hol (H := ?b) ?h); (case h => assumption); walk_at "ey")
  | (refine Same.on ?r (Upd.hol (l := ?l) (H := ?b) ?h ?m); (case h => assumption); (case m => simp); walk_at "ey")
  | (refine Same.on ?r (weak1 (p := ?p) (A := ?b) ?n ?h); (case h => assumption); (case n => simp); walk_at "ey")
  | (refine Same.on (B := ?b) ?r ?h; (case h => assumption); walk_at "ey")
  | (refine Same.on ?r (same1 (A := ?b) ?h); (case h => assumption); walk_at "ey")
  | (refine Same.on ?r (same2 (A := ?b) ?h); (case h => assumption); walk_at "ey"))
local macro_rules | `(tactic| walk_at "ex") => `(tactic| first
  | exact Same.refl _
  | exact hol_le
  | assumption
  | (refine Same.on ?r (same_hol (H := ?b) ?h); (case h => assumption); walk_at "ex")
  | (refine Same.on ?r (Upd.hol (l := ?l) (H := ?b) ?h ?m); (case h => assumption); (case m => simp); walk_at "ex")
  | (refine Same.on ?r (weak1 (p := ?p) (A := ?b) ?n ?h); (case h => assumption); (case n => simp); walk_at "ex")
  | (refine Same.on (B := ?b) ?r ?h; (case h => assumption); walk_at "ex")
  | (refine Same.on ?r (same1 (A := ?b) ?h); (case h => assumption); walk_at "ex")
  | (refine Same.on ?r (same2 (A := ?b) ?h); (case h => assumption); walk_at "ex")
  | (refine Same.on ?r (hol_le (M := ?m)); walk_at "ey"))
local macro_rules | `(tactic| walk_at "dom") => `(tactic| first
  | assumption
  | exact Dom.nil
  | (refine Dom.mono (H := ?b) ?h ?d; (case h => assumption); walk_at "dom")
  | (refine dom_draw (p := ?p) (l := ?l) (ns := ?ns) (A := ?b) ?h ?c ?d; (case h => assumption); (case c => assumption); walk_at "dom")
  | (refine Dom.cons (o := ?o) ?h ?d; (case h => assumption); walk_at "dom")
  | (refine Dom.holm (A := ?b) (N := ?n) ?h ?d; (case h => assumption); walk_at "dom")
  | (refine Upd.dom (l := ?l) (H := ?b) (o := ?o) ?h ?e ?d; (case h => assumption); (case e => assumption); walk_at "dom"))
local macro_rules | `(tactic| walk_at "pl") => `(tactic| first
  | assumption
  | (refine Pl.same (A := ?b) ?s ?h; (case s => assumption); walk_at "pl"))
local macro_rules | `(tactic| walk_at "is") => `(tactic| first
  | assumption
  | exact Is.int _
  | exact Is.str _
  | exact Is.bl _
  | exact Is.non
  | (refine Is.mono (H := ?b) ?s ?h; (case h => assumption); walk_at "ex"))
local macro_rules | `(tactic| walk_at "isa") => `(tactic| first
  | exact IsA.nil
  | (refine IsA.cons (d := ?x) (ds := ?xs) ?a ?b; (case a => walk_at "is"); (case b => walk_at "isa"))
  | (refine IsA.mono (H := ?b) ?s ?h; (case h => assumption); walk_at "ex"))
local macro_rules | `(tactic| walk_at "at") => `(tactic| first
  | exact at0
  | exact at1
  | exact at2
  | exact at3
  | exact at4
  | (refine atM (a := ?a) ?h; (case h => assumption))
  | (refine atJ (a := ?a) ?h; (case h => assumption)))
local macro_rules | `(tactic| walk_at "sc") => `(tactic| (intro v hv; first
  | ((with_reducible have e := Is.int_inv hv); subst e; clear hv)
  | ((with_reducible have e := Is.str_inv hv); subst e; clear hv)
  | ((with_reducible have e := Is.bool_inv hv); subst e; clear hv)
  | ((with_reducible have e := Is.none_inv hv); subst e; clear hv)
  | skip))
local macro_rules | `(tactic| walk_at "g") => `(tactic| first
  | with_reducible refine g_seq ?_
  | with_reducible refine g_asg ?_
  | with_reducible refine g_ret ?_
  | with_reducible refine g_drop ?_
  | with_reducible refine g_ifS ?_
  | with_reducible refine g_next ?_
  | with_reducible refine g_break ?_
  | with_reducible refine g_for ?_
  | with_reducible refine g_op ?_
  | ((with_reducible refine g_var (v := ?v) ?h ?k); (case h => exact rfl))
  | with_reducible refine g_c ?_
  | with_reducible refine g_I0 ?_
  | with_reducible refine g_U ?_
  | with_reducible refine g_cons ?_
  | with_reducible refine g_nil ?_
  | with_reducible refine g_cb ?_
  | with_reducible refine g_call ?_
  | with_reducible refine g_test ?_
  | with_reducible refine g_bl ?_
  | with_reducible refine g_int ?_
  | with_reducible refine g_B ?_
  | ((with_reducible refine g_wipe ?e ?k); (case e => exact rfl))
  | with_reducible refine g_iteT ?_
  | with_reducible refine g_iteF ?_
  | with_reducible refine g_iteNT ?_
  | with_reducible refine g_iteNF ?_
  | with_reducible refine g_andK ?_
  | with_reducible refine g_orK ?_
  | with_reducible refine g_notK ?_
  | ((with_reducible refine w_tupK (B := ?b) (ds := ?ds) ?s ?h ?k); (case h => assumption); (case s => walk_at "ex"); intro a S)
  | ((with_reducible refine w_listK (B := ?b) (ds := ?ds) ?s ?h ?k); (case h => assumption); (case s => walk_at "ex"); intro a S)
  | ((with_reducible refine w_enumK (B := ?b) (ds := ?ds) ?s ?h ?k); (case h => assumption); (case s => walk_at "ex"); intro a S)
  | ((with_reducible refine w_enumTK (B := ?b) (ds := ?ds) ?s ?h ?k); (case h => assumption); (case s => walk_at "ex"); intro a S)
  | ((with_reducible refine w_zipK (B := ?b) (ds := ?ds) (es := ?es) ?s ?h ?h' ?k); (case h => assumption); (case h' => walk_at "is"); (case s => walk_at "ex"); intro a b S)
  | ((with_reducible refine w_zipMK (B := ?b) (ds := ?ds) (es := ?es) ?s ?h ?h' ?k); (case h => assumption); (case h' => walk_at "is"); (case s => walk_at "ex"); intro a b S)
  | ((with_reducible refine w_zipTK (B := ?b) (ds := ?ds) (es := ?es) ?s ?h ?h' ?k); (case h => assumption); (case h' => walk_at "is"); (case s => walk_at "ex"); intro a b S)
  | ((with_reducible refine g_listOf (M := ?m) (ds := ?ds) ?c ?d ?h ?k); (case c => assumption); (case d => walk_at "dom"); (case h => first | (refine Or.inl ?_; walk_at "is") | (refine Or.inr ?_; walk_at "is")); intro v H' hs hv)
  | ((with_reducible refine g_tupOf (M := ?m) (ds := ?ds) ?c ?d ?h ?k); (case c => assumption); (case d => walk_at "dom"); (case h => walk_at "is"); intro v H' hs hv)
  | ((with_reducible refine g_tupK (M := ?m) (ds := ?ds) ?c ?d ?h ?l ?k); (case c => assumption); (case d => walk_at "dom"); (case h => walk_at "isa"); (case l => (simp only [List.length_cons, List.length_nil]; omega)); intro v H' hs hv)
  | ((with_reducible refine g_tupT (M := ?m) (ds := ?ds) ?c ?h ?e ?k); (case c => assumption); (case h => walk_at "is"); (case e => rfl); intro xs hxs)
  | ((with_reducible refine g_fldK (C := ?c) (dx := ?dx) (fs := ?fs) (v := ?v) ?h ?cl ?na ?l ?k); (case h => assumption); (case cl => assumption); (case na => assumption); (case l => first | assumption | exact rfl))
  | ((with_reducible refine g_fldM (C := ?c) (dx := ?dx) (fs := ?fs) ?h ?cl ?na ?hl ?k); (case h => assumption); (case cl => assumption); (case na => assumption); (case hl => exact Nat.le_of_ble_eq_true rfl); intro H' u hx)
  | ((with_reducible refine g_ixM (xs := ?xs) (v := ?v) ?h ?e ?k); (case h => assumption); (case e => first | exact at0 | exact at1 | exact at2 | exact at3 | exact at4))
  | ((with_reducible refine g_lenM (xs := ?xs) ?h ?k); (case h => assumption))
  | ((with_reducible refine g_mul ?h ?k); (case h => decide))
  | ((with_reducible refine g_mod ?h ?k); (case h => first | decide | assumption | omega))
  | ((with_reducible refine g_div ?h ?l ?k); (case h => first | decide | assumption | omega); (case l => first | decide | assumption | omega))
  | ((with_reducible refine g_subM (xs := ?xs) (k := ?n) ?h ?j ?k); (case h => assumption); (case j => exact rfl); intro H' u hp)
  | ((with_reducible refine g_isi (t := ?t) (b := ?b) ?ty ?e ?k); (case ty => assumption); (case e => first | exact kit_NoneType_tuple | exact kit_NoneType_list | exact kit_NoneType_bool | exact kit_NoneType_int | exact kit_int_tuple | exact kit_int_list | exact kit_int_bool | exact kit_int_int | exact kit_list_tuple | exact kit_list_list | exact kit_list_bool | exact kit_list_int | exact kit_tuple_tuple | exact kit_tuple_list | exact kit_tuple_bool | exact kit_tuple_int))
  | ((with_reducible refine g_draw (l := ?l) (ns := ?ns) ?a ?b ?h ?k); (case a => first | decide | omega); (case b => first | decide | omega); (case h => walk_at "pl"); intro r H' h0 h1 hs pl)
  | ((with_reducible refine g_dgetS (v := ?v) (kvs := ?kvs) ?h ?e ?k); (case h => assumption); (case e => assumption))
  | with_reducible refine g_and ?_
  | with_reducible refine w_keys ?_
  | with_reducible refine w_rng3 ?_
  | with_reducible refine w_items ?_
  | with_reducible refine g_or ?_
  | with_reducible refine g_not ?_
  | with_reducible refine g_yes ?_
  | with_reducible refine g_tru ?_
  | with_reducible refine g_fld ?_
  | with_reducible refine g_meth ?_
  | with_reducible refine g_make ?_
  | with_reducible refine g_tupE ?_
  | with_reducible refine g_lstE ?_
  | with_reducible refine g_sl ?_
  | with_reducible refine g_part ?_
  | with_reducible refine g_nopart ?_
  | with_reducible refine g_bm ?_
  | with_reducible refine g_bm0 ?_
  | with_reducible refine g_if ?_
  | with_reducible refine g_un ?_
  | with_reducible refine g_isN ?_
  | with_reducible refine g_notN ?_
  | with_reducible refine g_andV ?_
  | with_reducible refine g_orV ?_
  | with_reducible refine g_notV ?_
  | with_reducible refine g_lc ?_
  | with_reducible refine g_dget ?_
  | with_reducible refine g_din ?_
  | with_reducible refine g_dnotin ?_
  | with_reducible refine g_fldS ?_
  | with_reducible refine g_dput ?_
  | with_reducible refine g_sub ?_
  | with_reducible refine g_consT ?_
  | with_reducible refine g_nilT ?_
  | ((with_reducible refine g_name (σ' := ?s) ?h ?k); (case h => (dsimp only [List.set]; exact rfl)))
  | with_reducible refine w_list ?_
  | with_reducible refine w_tup ?_
  | with_reducible refine w_rng1 ?_
  | with_reducible refine w_enumT ?_
  | with_reducible refine w_enum ?_
  | with_reducible refine w_zip ?_
  | with_reducible refine w_zipM ?_
  | with_reducible refine w_zipA ?_
  | with_reducible refine w_rng ?_
  | with_reducible refine g_int1 ?_
  | ((with_reducible refine g_ixT (M := ?m) (ds := ?ds) (d := ?d) ?c ?h ?e ?k); (case c => assumption); (case h => walk_at "is"); (case e => walk_at "at"); walk_at "sc")
  | ((with_reducible refine g_ixL (M := ?m) (ds := ?ds) (d := ?d) ?c ?h ?e ?k); (case c => assumption); (case h => walk_at "is"); (case e => walk_at "at"); walk_at "sc")
  | ((with_reducible refine g_lenL (M := ?m) (ds := ?ds) ?c ?h ?k); (case c => assumption); (case h => walk_at "is"))
  | ((with_reducible refine g_lenT (M := ?m) (ds := ?ds) ?c ?h ?k); (case c => assumption); (case h => walk_at "is")))
local macro_rules | `(tactic| walk_at "len") => `(tactic| ((try simp only [List.length_map, List.length_append, List.length_cons, List.length_nil, List.length_range, List.length_zip]); omega))
local macro_rules | `(tactic| walk_at "gg") => `(tactic| repeat walk_at "g")
def OkS : Nat → PyData → Prop
  | 0, d => d = .none ∨ ∃ i, d = .int i
  | n + 1, d => (d = .none ∨ ∃ i, d = .int i) ∨ ∃ ds, (d = .list ds ∨ d = .tuple ds) ∧ ds.length < 100000 ∧ ∀ e ∈ ds, OkS n e
def spS (n : Nat) : Sp := fun vs H Q _ => ∃ (M : List Addr) (d : PyData) (x y : V), vs = [x, y] ∧ Dom M H ∧ Is (hol M H) d x ∧ Is (hol M H) d y ∧ OkS n d ∧ ∀ H', Same H H' → Q (.bl true) H'
theorem OkS.cases {n : Nat} {d : PyData} (h : OkS n d) : (d = .none ∨ ∃ i, d = .int i) ∨ ∃ m ds, n = m + 1 ∧ (d = .list ds ∨ d = .tuple ds) ∧ ds.length < 100000 ∧ ∀ e ∈ ds, OkS m e := by
  cases n with
  | zero => exact .inl h
  | succ n =>
    rcases h with h | ⟨ds, h⟩
    · exact .inl h
    · exact .inr ⟨n, ds, rfl, h⟩
theorem r_same {K : PySem.W.Frag} {nn : Nat} {sp : Sp} (hsp : ∀ m, nn = m + 1 → sp = spS m) {vs : List V} {H : Hp} {Q : VK} {E : XK} {n b c : L2.St → Hp → Prop} (h : spS nn vs H Q E) : rd_w_same K sp ⟨n, Q, b, c⟩ (start N_w_same vs) H := by
  obtain ⟨M, d, x, y, rfl, dm, isx, isy, ok, k⟩ := h
  have cu := Sg.cur M
  show rd_w_same K _ _ [some x, some y, none] H
  unfold rd_w_same
  rcases ok.cases with (rfl | ⟨i, rfl⟩) | ⟨m, ds, rfl, hd, few, all⟩
  · obtain rfl := isx.none_inv
    obtain rfl := isy.none_inv
    have ty : L2.TyX K H .non (.type "NoneType") := .base .non
    walk_at "gg"
    rw [decide_eq_true rfl]
    walk_at "gg"
    exact k _ (Same.refl _)
  · obtain rfl := isx.int_inv
    obtain rfl := isy.int_inv
    have ty : L2.TyX K H (.int i) (.type "int") := .base (.int i)
    walk_at "gg"
    rw [decide_eq_false (by intro z; cases z)]
    walk_at "gg"
    refine g_eq rfl ?_
    rw [decide_eq_true rfl]
    exact k _ (Same.refl _)
  · obtain rfl := hsp m rfl
    have loop : ∀ H1 : Hp, Same H H1 → (∀ (i : Nat) (d : PyData) (H2 : Hp) (Q' : VK), ds[i]? = some d → Same H1 H2 → (∀ vx, Is (hol M H2) d vx → Q' vx H2) → rIx K x (.int ((i : Nat) : Int)) H2 Q') → (∀ (i : Nat) (d : PyData) (H2 : Hp) (Q' : VK), ds[i]? = some d → Same H1 H2 → (∀ vx, Is (hol M H2) d vx → Q' vx H2) → rIx K y (.int ((i : Nat) : Int)) H2 Q') →
        ∀ (nx : L2.St → Hp → Prop) (b c : L2.St → Hp → Prop), (∀ σ H2, Same H1 H2 → nx σ H2) → ForK (Itr 0 ds.length) (gName 2) (b1_w_same K (spS m)) nx Q b c [some x, some y, none] H1 := fun H1 s1 hx hy nx b c hnx => by
      refine for_map (l := List.range ds.length) (enc := fun i : Nat => PyData.int ((i : Nat) : Int)) (src_range (B := fun _ => none)) (fun i σ H' => ∃ (o2 : Option V), σ = [some x, some y, o2] ∧ Same H1 H') ⟨_, rfl, Same.refl _⟩ (fun j σ H' q => ?_) (fun i a z σ H3 H4 ha q s34 isz => ?_) (fun σ H3 q => ?_)
      · exact fun _ _ e => (nomatch e)
      · obtain ⟨o2, rfl, s13⟩ := q
        obtain rfl := (isz [] .nil (fun _ _ e => (nomatch e))).int_inv
        obtain ⟨il, ie⟩ := List.getElem?_eq_some_iff.mp ha
        rw [List.length_range] at il
        rw [List.getElem_range] at ie
        subst ie
        have s14 := s13.trans s34
        have hd' : ds[i]? = some ds[i] := List.getElem?_eq_getElem il
        walk_at "gg"
        unfold b1_w_same
        walk_at "gg"
        refine hx i _ _ _ hd' s14 (fun vx ix => ?_)
        walk_at "gg"
        refine hy i _ _ _ hd' s14 (fun vy iy => ?_)
        walk_at "gg"
        refine ⟨M, ds[i], vx, vy, rfl, dm.mono (s1.trans s14), ix, iy, all _ (List.getElem_mem il), fun H5 s5 => ?_⟩
        walk_at "gg"
        exact ⟨_, rfl, s14.trans s5⟩
      · obtain ⟨o2, rfl, s13⟩ := q
        exact hnx _ _ s13
    rcases hd with rfl | rfl
    · obtain ⟨a1, xs1, rfl, h1, r1⟩ := id isx.lst_inv
      obtain ⟨a2, xs2, rfl, h2, r2⟩ := id isy.lst_inv
      have ty1 : L2.TyX K H (.ref a1) (.type "list") := .base (.lst (hol_le _ _ h1))
      have ty2 : L2.TyX K H (.ref a2) (.type "list") := .base (.lst (hol_le _ _ h2))
      walk_at "gg"
      refine g_ne rfl ?_
      rw [decide_eq_true rfl]
      walk_at "gg"
      refine g_ne rfl ?_
      rw [decide_eq_true rfl]
      walk_at "gg"
      refine g_ne rfl ?_
      rw [decide_eq_true rfl]
      walk_at "gg"
      refine w_rng1K (n := ds.length) rfl (by omega) ?_
      refine loop H (Same.refl _) (fun i d H2 Q' e s k' => .inl (g_ixL cu (isx.mono (same_hol s)) (atJ e) k')) (fun i d H2 Q' e s k' => .inl (g_ixL cu (isy.mono (same_hol s)) (atJ e) k')) _ _ _ (fun σ H2 s => ?_)
      walk_at "gg"
      exact k _ s
    · obtain ⟨a1, xs1, rfl, h1, r1⟩ := id isx.tup_inv
      obtain ⟨a2, xs2, rfl, h2, r2⟩ := id isy.tup_inv
      have ty1 : L2.TyX K H (.ref a1) (.type "tuple") := .base (.tup (hol_le _ _ h1))
      have ty2 : L2.TyX K H (.ref a2) (.type "tuple") := .base (.tup (hol_le _ _ h2))
      walk_at "gg"
      refine g_ne rfl ?_
      rw [decide_eq_true rfl]
      walk_at "gg"
      refine g_ne rfl ?_
      rw [decide_eq_true rfl]
      walk_at "gg"
      refine g_ne rfl ?_
      rw [decide_eq_true rfl]
      walk_at "gg"
      refine w_rng1K (n := ds.length) rfl (by omega) ?_
      refine loop H (Same.refl _) (fun i d H2 Q' e s k' => .inr (.inl (g_ixT cu (isx.mono (same_hol s)) (atJ e) k'))) (fun i d H2 Q' e s k' => .inr (.inl (g_ixT cu (isy.mono (same_hol s)) (atJ e) k'))) _ _ _ (fun σ H2 s => ?_)
      walk_at "gg"
      exact k _ s
theorem ok_same {P : Program} {w : World} {K : PySem.W.Frag} {mg : Str → Option Value} {base : Heap} {f : Addr} {fd : FuncData} (F : Fun K "_law_same" "_law_same" s_w_same f fd) (T : Bl mg) {nn lv : Nat} {sp : Sp} (hsp : ∀ m, nn = m + 1 → sp = spS m) (c1 : Cal P w K mg base lv "_law_same" sp) : FnOk P w K mg base CX0 (lv + 1) f fd ["_law_actual", "_law_due"] (spS nn) :=
  F.ok sc_w_same (fun vs H Q E h => by
    obtain ⟨_, _, _, _, rfl, _⟩ := h
    rfl) fun cdv A outer s H vs Q E hr h => ⟨_, dv_w_same T c1 hr, r_same hsp h⟩
def spNo : Sp := fun _ _ _ _ => False
theorem ok_same0 {P : Program} {w : World} {K : PySem.W.Frag} {mg : Str → Option Value} {base : Heap} {f : Addr} {fd : FuncData} (F : Fun K "_law_same" "_law_same" s_w_same f fd) : FnOk P w K mg base CX0 3 f fd ["_law_actual", "_law_due"] spNo :=
  F.ok sc_w_same (fun vs H Q E h => h.elim) fun cdv A outer s H vs Q E hr h => h.elim

end Sg
namespace Sg
open PySem PySem.Spec PyProof.Rows L2
local macro_rules | `(tactic| walk_at "ey") => `(tactic| first
  | exact Same.refl _
  | exact hol_le
  | assumption
  | (refine Same.on ?r (same_hol (H := ?b) ?h); (case h => assumption); walk_at "ey")
  | (refine Same.on ?r (Upd.hol (l := ?l) (H := ?b) ?h ?m); (case h => assumption); (case m => simp); walk_at "ey")
  | (refine Same.on ?r (weak1 (p := ?p) (A := ?b) ?n ?h); (case h => assumption); (case n => simp); walk_at "ey")
  | (refine Same.on (B := ?b) ?r ?h; (case h => assumption); walk_at "ey")
  | (refine Same.on ?r (same1 (A := ?b) ?h); (case h => assumption); walk_at "ey")
  | (refine Same.on ?r (same2 (A := ?b) ?h); (case h => assumption); walk_at "ey"))
local macro_rules | `(tactic| walk_at "ex") => `(tactic| first
  | exact Same.refl _
  | exact hol_le
  | assumption
  | (refine Same.on ?r (same_hol (H := ?b) ?h); (case h => assumption); walk_at "ex")
  | (refine Same.on ?r (Upd.hol (l := ?l) (H := ?b) ?h ?m); (case h => assumption); (case m => simp); walk_at "ex")
  | (refine Same.on ?r (weak1 (p := ?p) (A := ?b) ?n ?h); (case h => assumption); (case n => simp); walk_at "ex")
  | (refine Same.on (B := ?b) ?r ?h; (case h => assumption); walk_at "ex")
  | (refine Same.on ?r (same1 (A := ?b) ?h); (case h => assumption); walk_at "ex")
  | (refine Same.on ?r (same2 (A := ?b) ?h); (case h => assumption); walk_at "ex")
  | (refine Same.on ?r (hol_le (M := ?m)); walk_at "ey"))
local macro_rules | `(tactic| walk_at "dom") => `(tactic| first
  | assumption
  | exact Dom.nil
  | (refine Dom.mono (H := ?b) ?h ?d; (case h => assumption); walk_at "dom")
  | (refine dom_draw (p := ?p) (l := ?l) (ns := ?ns) (A := ?b) ?h ?c ?d; (case h => assumption); (case c => assumption); walk_at "dom")
  | (refine Dom.cons (o := ?o) ?h ?d; (case h => assumption); walk_at "dom")
  | (refine Dom.holm (A := ?b) (N := ?n) ?h ?d; (case h => assumption); walk_at "dom")
  | (refine Upd.dom (l := ?l) (H := ?b) (o := ?o) ?h ?e ?d; (case h => assumption); (case e => assumption); walk_at "dom"))
local macro_rules | `(tactic| walk_at "pl") => `(tactic| first
  | assumption
  | (refine Pl.same (A := ?b) ?s ?h; (case s => assumption); walk_at "pl"))
local macro_rules | `(tactic| walk_at "is") => `(tactic| first
  | assumption
  | exact Is.int _
  | exact Is.str _
  | exact Is.bl _
  | exact Is.non
  | (refine Is.mono (H := ?b) ?s ?h; (case h => assumption); walk_at "ex"))
local macro_rules | `(tactic| walk_at "isa") => `(tactic| first
  | exact IsA.nil
  | (refine IsA.cons (d := ?x) (ds := ?xs) ?a ?b; (case a => walk_at "is"); (case b => walk_at "isa"))
  | (refine IsA.mono (H := ?b) ?s ?h; (case h => assumption); walk_at "ex"))
local macro_rules | `(tactic| walk_at "at") => `(tactic| first
  | exact at0
  | exact at1
  | exact at2
  | exact at3
  | exact at4
  | (refine atM (a := ?a) ?h; (case h => assumption))
  | (refine atJ (a := ?a) ?h; (case h => assumption)))
local macro_rules | `(tactic| walk_at "sc") => `(tactic| (intro v hv; first
  | ((with_reducible have e := Is.int_inv hv); subst e; clear hv)
  | ((with_reducible have e := Is.str_inv hv); subst e; clear hv)
  | ((with_reducible have e := Is.bool_inv hv); subst e; clear hv)
  | ((with_reducible have e := Is.none_inv hv); subst e; clear hv)
  | skip))
local macro_rules | `(tactic| walk_at "g") => `(tactic| first
  | with_reducible refine g_seq ?_
  | with_reducible refine g_asg ?_
  | with_reducible refine g_ret ?_
  | with_reducible refine g_drop ?_
  | with_reducible refine g_ifS ?_
  | with_reducible refine g_next ?_
  | with_reducible refine g_break ?_
  | with_reducible refine g_for ?_
  | with_reducible refine g_op ?_
  | ((with_reducible refine g_var (v := ?v) ?h ?k); (case h => exact rfl))
  | with_reducible refine g_c ?_
  | with_reducible refine g_I0 ?_
  | with_reducible refine g_U ?_
  | with_reducible refine g_cons ?_
  | with_reducible refine g_nil ?_
  | with_reducible refine g_cb ?_
  | with_reducible refine g_call ?_
  | with_reducible refine g_test ?_
  | with_reducible refine g_bl ?_
  | with_reducible refine g_int ?_
  | with_reducible refine g_B ?_
  | ((with_reducible refine g_wipe ?e ?k); (case e => exact rfl))
  | with_reducible refine g_iteT ?_
  | with_reducible refine g_iteF ?_
  | with_reducible refine g_iteNT ?_
  | with_reducible refine g_iteNF ?_
  | with_reducible refine g_andK ?_
  | with_reducible refine g_orK ?_
  | with_reducible refine g_notK ?_
  | ((with_reducible refine w_tupK (B := ?b) (ds := ?ds) ?s ?h ?k); (case h => assumption); (case s => walk_at "ex"); intro a S)
  | ((with_reducible refine w_listK (B := ?b) (ds := ?ds) ?s ?h ?k); (case h => assumption); (case s => walk_at "ex"); intro a S)
  | ((with_reducible refine w_enumK (B := ?b) (ds := ?ds) ?s ?h ?k); (case h => assumption); (case s => walk_at "ex"); intro a S)
  | ((with_reducible refine w_enumTK (B := ?b) (ds := ?ds) ?s ?h ?k); (case h => assumption); (case s => walk_at "ex"); intro a S)
  | ((with_reducible refine w_zipK (B := ?b) (ds := ?ds) (es := ?es) ?s ?h ?h' ?k); (case h => assumption); (case h' => walk_at "is"); (case s => walk_at "ex"); intro a b S)
  | ((with_reducible refine w_zipMK (B := ?b) (ds := ?ds) (es := ?es) ?s ?h ?h' ?k); (case h => assumption); (case h' => walk_at "is"); (case s => walk_at "ex"); intro a b S)
  | ((with_reducible refine w_zipTK (B := ?b) (ds := ?ds) (es := ?es) ?s ?h ?h' ?k); (case h => assumption); (case h' => walk_at "is"); (case s => walk_at "ex"); intro a b S)
  | ((with_reducible refine g_listOf (M := ?m) (ds := ?ds) ?c ?d ?h ?k); (case c => assumption); (case d => walk_at "dom"); (case h => first | (refine Or.inl ?_; walk_at "is") | (refine Or.inr ?_; walk_at "is")); intro v H' hs hv)
  | ((with_reducible refine g_tupOf (M := ?m) (ds := ?ds) ?c ?d ?h ?k); (case c => assumption); (case d => walk_at "dom"); (case h => walk_at "is"); intro v H' hs hv)
  | ((with_reducible refine g_tupK (M := ?m) (ds := ?ds) ?c ?d ?h ?l ?k); (case c => assumption); (case d => walk_at "dom"); (case h => walk_at "isa"); (case l => (simp only [List.length_cons, List.length_nil]; omega)); intro v H' hs hv)
  | ((with_reducible refine g_tupT (M := ?m) (ds := ?ds) ?c ?h ?e ?k); (case c => assumption); (case h => walk_at "is"); (case e => rfl); intro xs hxs)
  | ((with_reducible refine g_fldK (C := ?c) (dx := ?dx) (fs := ?fs) (v := ?v) ?h ?cl ?na ?l ?k); (case h => assumption); (case cl => assumption); (case na => assumption); (case l => first | assumption | exact rfl))
  | ((with_reducible refine g_fldM (C := ?c) (dx := ?dx) (fs := ?fs) ?h ?cl ?na ?hl ?k); (case h => assumption); (case cl => assumption); (case na => assumption); (case hl => exact Nat.le_of_ble_eq_true rfl); intro H' u hx)
  | ((with_reducible refine g_ixM (xs := ?xs) (v := ?v) ?h ?e ?k); (case h => assumption); (case e => first | exact at0 | exact at1 | exact at2 | exact at3 | exact at4))
  | ((with_reducible refine g_lenM (xs := ?xs) ?h ?k); (case h => assumption))
  | ((with_reducible refine g_mul ?h ?k); (case h => decide))
  | ((with_reducible refine g_mod ?h ?k); (case h => first | decide | assumption | omega))
  | ((with_reducible refine g_div ?h ?l ?k); (case h => first | decide | assumption | omega); (case l => first | decide | assumption | omega))
  | ((with_reducible refine g_subM (xs := ?xs) (k := ?n) ?h ?j ?k); (case h => assumption); (case j => exact rfl); intro H' u hp)
  | ((with_reducible refine g_isi (t := ?t) (b := ?b) ?ty ?e ?k); (case ty => assumption); (case e => first | exact kit_NoneType_tuple | exact kit_NoneType_list | exact kit_NoneType_bool | exact kit_NoneType_int | exact kit_int_tuple | exact kit_int_list | exact kit_int_bool | exact kit_int_int | exact kit_list_tuple | exact kit_list_list | exact kit_list_bool | exact kit_list_int | exact kit_tuple_tuple | exact kit_tuple_list | exact kit_tuple_bool | exact kit_tuple_int))
  | ((with_reducible refine g_draw (l := ?l) (ns := ?ns) ?a ?b ?h ?k); (case a => first | decide | omega); (case b => first | decide | omega); (case h => walk_at "pl"); intro r H' h0 h1 hs pl)
  | ((with_reducible refine g_dgetS (v := ?v) (kvs := ?kvs) ?h ?e ?k); (case h => assumption); (case e => assumption))
  | with_reducible refine g_and ?_
  | with_reducible refine w_keys ?_
  | with_reducible refine w_rng3 ?_
  | with_reducible refine w_items ?_
  | with_reducible refine g_or ?_
  | with_reducible refine g_not ?_
  | with_reducible refine g_yes ?_
  | with_reducible refine g_tru ?_
  | with_reducible refine g_fld ?_
  | with_reducible refine g_meth ?_
  | with_reducible refine g_make ?_
  | with_reducible refine g_tupE ?_
  | with_reducible refine g_lstE ?_
  | with_reducible refine g_sl ?_
  | with_reducible refine g_part ?_
  | with_reducible refine g_nopart ?_
  | with_reducible refine g_bm ?_
  | with_reducible refine g_bm0 ?_
  | with_reducible refine g_if ?_
  | with_reducible refine g_un ?_
  | with_reducible refine g_isN ?_
  | with_reducible refine g_notN ?_
  | with_reducible refine g_andV ?_
  | with_reducible refine g_orV ?_
  | with_reducible refine g_notV ?_
  | with_reducible refine g_lc ?_
  | with_reducible refine g_dget ?_
  | with_reducible refine g_din ?_
  | with_reducible refine g_dnotin ?_
  | with_reducible refine g_fldS ?_
  | with_reducible refine g_dput ?_
  | with_reducible refine g_sub ?_
  | with_reducible refine g_consT ?_
  | with_reducible refine g_nilT ?_
  | ((with_reducible refine g_name (σ' := ?s) ?h ?k); (case h => (dsimp only [List.set]; exact rfl)))
  | with_reducible refine w_list ?_
  | with_reducible refine w_tup ?_
  | with_reducible refine w_rng1 ?_
  | with_reducible refine w_enumT ?_
  | with_reducible refine w_enum ?_
  | with_reducible refine w_zip ?_
  | with_reducible refine w_zipM ?_
  | with_reducible refine w_zipA ?_
  | with_reducible refine w_rng ?_
  | with_reducible refine g_int1 ?_
  | ((with_reducible refine g_ixT (M := ?m) (ds := ?ds) (d := ?d) ?c ?h ?e ?k); (case c => assumption); (case h => walk_at "is"); (case e => walk_at "at"); walk_at "sc")
  | ((with_reducible refine g_ixL (M := ?m) (ds := ?ds) (d := ?d) ?c ?h ?e ?k); (case c => assumption); (case h => walk_at "is"); (case e => walk_at "at"); walk_at "sc")
  | ((with_reducible refine g_lenL (M := ?m) (ds := ?ds) ?c ?h ?k); (case c => assumption); (case h => walk_at "is"))
  | ((with_reducible refine g_lenT (M := ?m) (ds := ?ds) ?c ?h ?k); (case c => assumption); (case h => walk_at "is")))
local macro_rules | `(tactic| walk_at "len") => `(tactic| ((try simp only [List.length_map, List.length_append, List.length_cons, List.length_nil, List.length_range, List.length_zip]); omega))
local macro_rules | `(tactic| walk_at "gg") => `(tactic| repeat walk_at "g")
theorem lim_at {m : Int} (h0 : 0 ≤ m) (h1 : m < 4) : ∃ z : Int, atI [V.int 0, V.int 0, V.int 1, V.int (-1)] m = some (.int z) := by
  have : m = 0 ∨ m = 1 ∨ m = 2 ∨ m = 3 := by omega
  rcases this with rfl | rfl | rfl | rfl
  · exact ⟨0, rfl⟩
  · exact ⟨0, rfl⟩
  · exact ⟨1, rfl⟩
  · exact ⟨-1, rfl⟩
theorem eqv_list {α : Type} {f : α → PyData} (h : ∀ a, PyData.eqv (f a) (f a) = true) : ∀ l : List α, PyData.eqv (.list (l.map f)) (.list (l.map f)) = true
  | [] => by simp [PyData.eqv, PyData.eqvAll]
  | a :: l => by
    have ih := eqv_list h l
    simp only [PyData.eqv, List.map_cons, PyData.eqvAll] at ih ⊢
    rw [h a, ih]
    rfl
theorem eqv_tup {α : Type} {f : α → PyData} (h : ∀ a, PyData.eqv (f a) (f a) = true) : ∀ l : List α, PyData.eqv (.tuple (l.map f)) (.tuple (l.map f)) = true
  | [] => by simp [PyData.eqv, PyData.eqvAll]
  | a :: l => by
    have ih := eqv_tup h l
    simp only [PyData.eqv, List.map_cons, PyData.eqvAll] at ih ⊢
    rw [h a, ih]
    rfl
theorem eqv_P (q : Int × Int) : PyData.eqv (encP q) (encP q) = true := by simp [PyData.eqv, PyData.eqvAll]
theorem eqv_S (s : Size) : PyData.eqv (encS s) (encS s) = true := by
  have := eqv_tup eqv_P s.2
  simp only [PyData.eqv, PyData.eqvAll] at this ⊢
  simp [this]
theorem eqv_SS (s : List (List Size)) : PyData.eqv (encSS s) (encSS s) = true := eqv_list (fun r => eqv_list eqv_S r) s
theorem pre_of : ∀ {sizes : List (List Size)} {ch : List Nat}, Paired (fun r k => k < r.length) sizes ch → Pre (rowsOf sizes) ch ∧ ch.length = sizes.length
  | _, _, .nil => ⟨trivial, rfl⟩
  | _, _, .cons h r => by
    obtain ⟨h1, h2⟩ := pre_of r
    refine ⟨⟨?_, h1⟩, by simp [h2]⟩
    unfold rowOf
    rw [List.length_map]
    exact h
theorem range_getD (L : List Int) : (List.range L.length).map (fun k => L.getD k 0) = L := by
  refine List.ext_getElem? fun i => ?_
  rw [List.getElem?_map]
  by_cases h : i < L.length
  · rw [List.getElem?_eq_getElem (by rw [List.length_range]; exact h), List.getElem_range, Option.map_some, List.getD_eq_getElem?_getD, List.getElem?_eq_getElem h]
    rfl
  · rw [List.getElem?_eq_none (by rw [List.length_range]; omega), List.getElem?_eq_none (by omega)]
    rfl
theorem wt_small : ∀ n, n ≤ 5 → wt 3 n < 50000 := by decide
theorem ok_best {o : Option (Int × List Nat)} (h : ∀ c b, o = some (c, b) → b.length < 100000) : OkS 2 (encB o) := by
  cases o with
  | none => exact .inl (.inl rfl)
  | some cb =>
    refine .inr ⟨[.int cb.1, encCh cb.2], .inr rfl, Nat.le_of_ble_eq_true rfl, fun e he => ?_⟩
    rcases List.mem_cons.mp he with q | q
    · rw [q]; exact .inl (.inr ⟨_, rfl⟩)
    · simp only [List.mem_singleton] at q
      rw [q]
      refine .inr ⟨_, .inl rfl, by rw [List.length_map]; exact h cb.1 cb.2 rfl, fun e he => ?_⟩
      obtain ⟨k, _, rfl⟩ := List.mem_map.mp he
      exact .inr ⟨_, rfl⟩
def spLaw (K : PySem.W.Frag) : Sp := fun vs H Q _ => ∃ (ns : List Int) (a : Addr), vs = [.ref a] ∧ SqL K H a (ns.map V.int) ∧ ∀ H', Q (.bl true) H'
theorem r_law {K : PySem.W.Frag} {vs : List V} {H : Hp} {Q : VK} {E : XK} {n b c : L2.St → Hp → Prop} (h : spLaw K vs H Q E) : rd_law K spChoices spCircuit spDraw spWLate spMeets (spPool K) (spS 2) spSizes spStarts spCheapest ⟨n, Q, b, c⟩ (start N_law vs) H := by
  obtain ⟨ns, va, rfl, hS0, k⟩ := h
  show rd_law K _ _ _ _ _ _ _ _ _ _ _ [some (.ref va), none, none, none, none, none, none, none, none, none, none, none, none, none] H
  unfold rd_law
  walk_at "gg"
  refine ⟨ns, va, rfl, hS0, fun p l H1 s1 s1' hl hc => ?_⟩
  have pl1 : Pl p l ns H1 := ⟨hl, hc⟩
  have dm1 : Dom [p] H1 := hc.dom
  walk_at "gg"
  refine ⟨p, l, ns, [], rfl, dm1, pl1, fun ci cv H2 s2 pl2 isc2 S g5 sok => ?_⟩
  have dm2 := dom_draw s2 pl2 dm1
  walk_at "gg"
  refine ⟨p, l, ns, [], cv, ci, rfl, dm2, pl2, isc2, S, fun sizes zv H3 s3 pl3 isz3 Z r3 => ?_⟩
  have dm3 := dom_draw s3 pl3 dm2
  have isc3 := isc2.mono s3
  walk_at "gg"
  refine ⟨p, l, ns, [], cv, ci, rfl, dm3, pl3, isc3, S.few, fun st sv H4 s4 pl4 iss4 stl stle => ?_⟩
  have dm4 := dom_draw s4 pl4 dm3
  have isc4 := isc3.mono s4
  have isz4 := isz3.mono s4
  have zlen : sizes.length ≤ 5 := by rw [Z.len]; exact g5
  have cu := Sg.cur [p]
  clear isc2 isc3 isz3 dm1 dm2 dm3 pl1 pl2 pl3
  generalize V.ref va = v
  walk_at "gg"
  refine lc_draw (M := []) (enc := encRow) ‹Src _ (hol [p] H4) _› (fun (r : List Size) d => ∃ kc : Nat, d = .int ((kc : Nat) : Int) ∧ kc < r.length) cu dm4 pl4 (Same.refl _) (by omega) (fun i r x L H' Y No hd cu' dm' sM s0 plD isx kY => ?_) (fun v5 out H5 s5 pl5 hout is5 => ?_)
  · have rm := List.mem_of_getElem? hd
    have rne := List.length_pos_iff.mpr (Z.ne r rm)
    have rr := r3 r rm
    have nl1 : 0 < ((r.map encS).length : Int) := by rw [List.length_map]; omega
    have nl2 : ((r.map encS).length : Int) ≤ 2 ^ 64 := by rw [List.length_map]; omega
    show gName 12 x [some v, some (.ref p), some cv, some zv, some sv, none, none, none, none, none, none, none, none, none] H' _
    walk_at "gg"
    rename_i q HE q0 q1 sE plE
    rw [List.length_map] at q1
    obtain ⟨kc, rfl⟩ := Int.eq_ofNat_of_zero_le q0
    exact kY _ _ _ sE plE (Is.int _) ⟨kc, rfl, by omega⟩
  obtain ⟨ch0, rfl, hch0⟩ := paired_ex (f := fun kc : Nat => PyData.int ((kc : Nat) : Int)) (R' := fun (r : List Size) kc => kc < r.length) (fun _ _ h => h) hout
  obtain ⟨pre0, len0⟩ := pre_of hch0
  have dm5 := dom_draw s5 pl5 dm4
  have isc5 := isc4.mono s5
  have isz5 := isz4.mono s5
  have iss5 := iss4.mono s5
  clear isc4 isz4 iss4 dm4 pl4
  walk_at "gg"
  refine ⟨[p], cv, sv, v5, zv, ci, st, ch0, sizes, rfl, dm5, isc5, iss5, is5, isz5, S, strs_of S sok, Z, stl, pre0, len0, fun d1 k1 ts H6 hd1 s6 h6 isT nd kall kin tl lt => ?_⟩
  have sA : Same H5 H6 := s6.trans hol_le
  have pl6 := pl5.same sA
  have n1p : d1 ≠ p := (pl_ne pl5 hd1).1
  have n1l : d1 ≠ l := (pl_ne pl5 hd1).2
  walk_at "gg"
  refine g_dnewM cu (fun d2 H7 hd2 s7 h7 _ s7' => ?_)
  have pl7 := pl6.same s7
  obtain ⟨n2p, n2l⟩ := pl_ne pl6 hd2
  have h71 := s7 _ _ h6
  have n21 : d2 ≠ d1 := fun q => by rw [q, h6] at hd2; cases hd2
  have w57 : Same (hol [p] H5) (hol [p, d2, d1] H7) := by
    intro z o hz
    obtain ⟨z1, z2⟩ := hol_some.mp hz
    have z3 := s6 _ _ z2
    obtain ⟨z4, z5⟩ := hol_some.mp z3
    have z6 := s7' _ _ z5
    obtain ⟨z7, z8⟩ := hol_some.mp z6
    exact hol_some.mpr ⟨by simp at z1 z4 z7 ⊢; exact ⟨z1, z7, z4⟩, z8⟩
  have isc7 := isc5.mono w57
  have isz7 := isz5.mono w57
  have iss7 := iss5.mono w57
  have dm7 : Dom [p, d2, d1] H7 := by
    obtain ⟨_, _, _, _, _, hc7, _⟩ := id pl7
    exact .cons hc7 (.cons h7 (.cons h71 .nil))
  clear isc5 isz5 iss5 is5 cu dm5 pl5 pl6
  have cu := Sg.cur [p, d2, d1]
  iterate 2 walk_at "g"
  refine g_lock h71 (fun od H8 u8 h8 => ?_)
  have t78 : Same (hol [p, d2, d1] H7) (hol [p, d2, d1] H8) := u8.hol (by simp)
  have pl8 := pl7.upd u8 n1p n1l
  have h82 := u8.at n21 h7
  have dm8 := u8.dom h8 dm7
  iterate 3 walk_at "g"
  refine w_keysK h8 ?_
  refine for_map (src_keysD (B := hol [p, d2] H8) (isT H8) (hol_some.mpr ⟨by simp [n1p, n21.symm], h8⟩)) (fun i σ H' => ∃ (lim : List (Str × Int)) (k2 : List (Key × V)) (o7 : Option V), σ = [some v, some (.ref p), some cv, some zv, some sv, some (.ref d1), some (.ref d2), o7, none, none, none, none, none, none] ∧
    H' d2 = some (.dK k2) ∧ (∀ N, IsD (fun i : Int => PyData.int i) N lim k2) ∧ (lim.map (fun e : Str × Int => e.1)).Nodup ∧ (∀ n ∈ lim.map (fun e : Str × Int => e.1), n ∈ nets ci) ∧ lim.length ≤ i ∧ Pl p l ns H' ∧ Same (hol [d2, p] H8) (hol [d2, p] H')) ⟨[], [], none, rfl, h82, fun _ => trivial, by simp, by simp, Nat.le_refl _, pl8, Same.refl _⟩ (fun j σ H' q => ?_) (fun i e y σ H9 HA he q s9A isx => ?_) (fun σ H9 q => ?_)
  · obtain ⟨_, _, _, _, _, _, _, _, _, _, s⟩ := q
    exact (hol_anti (by simp)).trans (s.trans hol_le)
  · obtain ⟨lim, k2, o7, rfl, h9, isL, lnd, lin, ll, pl9, s9⟩ := q
    obtain rfl := (isx [] .nil ((hol_anti (by simp)).trans (s9.trans hol_le))).str_inv
    have el : i < ts.length := (List.getElem?_eq_some_iff.mp he).1
    have em := List.mem_of_getElem? he
    have hav : lkT ts e.1 = some e.2 := lk_mem nd em
    have nin : e.1 ∈ nets ci := kin e.1 (List.mem_map.mpr ⟨e, em, rfl⟩)
    have plA := pl9.same s9A
    have hA := s9A _ _ h9
    have sA' : Same (hol [d2, p] H8) (hol [d2, p] HA) := s9.trans (same_hol (M := [d2, p]) s9A)
    have hA1 := ch_at sA' (by simp [n1p, n21.symm]) h8
    obtain ⟨w, hw, isw⟩ := (isT HA).get hav
    have put : ∀ (HB : Hp) (val : Int) (HC : Hp), Same (hol [p] HA) (hol [p] HB) → Pl p l ns HB → HB d2 = some (.dK k2) → Upd d2 HB HC → HC d2 = some (.dK (putK k2 (.inr e.1) (.int val))) → ∃ (lim : List (Str × Int)) (k2 : List (Key × V)) (o7' : Option V), [some v, some (.ref p), some cv, some zv, some sv, some (.ref d1), some (.ref d2), some (.str e.1), none, none, none, none, none, none] = [some v, some (.ref p), some cv, some zv, some sv, some (.ref d1), some (.ref d2), o7', none, none, none, none, none, none] ∧
        HC d2 = some (.dK k2) ∧ (∀ N, IsD (fun i : Int => PyData.int i) N lim k2) ∧ (lim.map (fun e : Str × Int => e.1)).Nodup ∧ (∀ n ∈ lim.map (fun e : Str × Int => e.1), n ∈ nets ci) ∧ lim.length ≤ i + 1 ∧ Pl p l ns HC ∧ Same (hol [d2, p] H8) (hol [d2, p] HC) := fun HB val HC sB plB hB uC hC => by
      refine ⟨putT lim e.1 val, _, _, rfl, hC, fun N => (isL N).put (a := val) (.int _), nodup_put lnd, fun n hn => ?_, ?_, plB.upd uC n2p n2l, (sA'.trans (weak1 (M := [d2, p]) (by simp) sB)).trans (uC.hol (by simp))⟩
      · rcases mem_put.mp hn with z | z
        · rw [z]; exact nin
        · exact lin n z
      · have := len_put lim e.1 val
        omega
    have keep : ∀ (HB : Hp), Same (hol [p] HA) (hol [p] HB) → Pl p l ns HB → HB d2 = some (.dK k2) → ∃ (lim : List (Str × Int)) (k2 : List (Key × V)) (o7' : Option V), [some v, some (.ref p), some cv, some zv, some sv, some (.ref d1), some (.ref d2), some (.str e.1), none, none, none, none, none, none] = [some v, some (.ref p), some cv, some zv, some sv, some (.ref d1), some (.ref d2), o7', none, none, none, none, none, none] ∧
        HB d2 = some (.dK k2) ∧ (∀ N, IsD (fun i : Int => PyData.int i) N lim k2) ∧ (lim.map (fun e : Str × Int => e.1)).Nodup ∧ (∀ n ∈ lim.map (fun e : Str × Int => e.1), n ∈ nets ci) ∧ lim.length ≤ i + 1 ∧ Pl p l ns HB ∧ Same (hol [d2, p] H8) (hol [d2, p] HB) := fun HB sB plB hB =>
      ⟨lim, k2, _, rfl, hB, isL, lnd, lin, by omega, plB, sA'.trans (weak1 (M := [d2, p]) (by simp) sB)⟩
    have els : ∀ (HB : Hp), Same (hol [p] HA) (hol [p] HB) → Pl p l ns HB → HB d2 = some (.dK k2) → ∀ (nx : L2.St → Hp → Prop) (b c : L2.St → Hp → Prop), (∀ HC, (∃ (lim : List (Str × Int)) (k2 : List (Key × V)) (o7' : Option V), [some v, some (.ref p), some cv, some zv, some sv, some (.ref d1), some (.ref d2), some (.str e.1), none, none, none, none, none, none] = [some v, some (.ref p), some cv, some zv, some sv, some (.ref d1), some (.ref d2), o7', none, none, none, none, none, none] ∧
        HC d2 = some (.dK k2) ∧ (∀ N, IsD (fun i : Int => PyData.int i) N lim k2) ∧ (lim.map (fun e : Str × Int => e.1)).Nodup ∧ (∀ n ∈ lim.map (fun e : Str × Int => e.1), n ∈ nets ci) ∧ lim.length ≤ i + 1 ∧ Pl p l ns HC ∧ Same (hol [d2, p] H8) (hol [d2, p] HC)) → nx [some v, some (.ref p), some cv, some zv, some sv, some (.ref d1), some (.ref d2), some (.str e.1), none, none, none, none, none, none] HC) → ∀ rt,
        (tIfS (tTest (tOp rEq (tCall spDraw [] E0 (tCons (tVar 1) (tCons (tC (.int 4)) tNil))) (tC (.int 0)))) (sDPut (tVar 6) (tVar 7) (tCall spDraw [] E0 (tCons (tVar 1) (tCons (tC (.int 40)) tNil)))) tNext) ⟨nx, rt, b, c⟩ [some v, some (.ref p), some cv, some zv, some sv, some (.ref d1), some (.ref d2), some (.str e.1), none, none, none, none, none, none] HB := fun HB sB plB hB nx b c hnx rt => by
      walk_at "gg"
      rename_i rC HC rC0 rC1 sC plC
      refine g_eq rfl ?_
      walk_at "gg"
      have hC := ch_at sC (by simp [n2p]) hB
      refine g_ite (fun _ => ?_) (fun _ => ?_)
      · walk_at "gg"
        rename_i rD HD rD0 rD1 sD plD
        have hD := ch_at sD (by simp [n2p]) hC
        refine g_putM (k := .inr e.1) hD (by rw [(isL HD).len]; omega) (fun HE uE hE => ?_)
        exact hnx _ (put HD rD HE ((sB.trans sC).trans sD) plD hD uE hE)
      · walk_at "gg"
        exact hnx _ (keep HC (sB.trans sC) plC hC)
    walk_at "gg"
    unfold b1_law
    walk_at "gg"
    refine g_dgetF hA1 hw ?_
    walk_at "gg"
    cases hav2 : e.2 with
    | none =>
      rw [hav2] at isw
      obtain rfl := isw.none_inv
      rw [decide_eq_true rfl]
      iterate 3 walk_at "g"
      exact els HA (Same.refl _) plA hA _ _ _ (fun _ h => h) _
    | some t =>
      rw [hav2] at isw
      obtain rfl := isw.int_inv
      rw [decide_eq_false (by intro z; cases z)]
      walk_at "gg"
      rename_i rB HB rB0 rB1 sB plB
      have hB := ch_at sB (by simp [n2p]) hA
      refine g_ite (fun _ => ?_) (fun _ => ?_)
      · have hB1 := ch_at sB (by simp [n1p]) hA1
        walk_at "gg"
        refine g_dgetF hB1 hw ?_
        walk_at "gg"
        refine g_lstM cu (Nat.le_of_ble_eq_true rfl) (fun L HC hL sC hC _ _ => ?_)
        have plC := plB.same sC
        have nLp := (pl_ne plB hL).1
        walk_at "gg"
        rename_i rD HD rD0 rD1 sD plD
        obtain ⟨z, hz⟩ := lim_at rD0 rD1
        have hD := ch_at sD (by simp [nLp]) hC
        refine g_ixM hD hz ?_
        have hD2 := ch_at sD (by simp [n2p]) (sC _ _ hB)
        walk_at "gg"
        refine g_putM (k := .inr e.1) hD2 (by rw [(isL HD).len]; omega) (fun HE uE hE => ?_)
        exact put HD (t + z) HE ((sB.trans (same_hol sC)).trans sD) plD hD2 uE hE
      · walk_at "g"
        exact els HB sB plB hB _ _ _ (fun _ h => h) _
  obtain ⟨lim, k2, o7, rfl, h9, isL, lnd, lin, ll, pl9, s9⟩ := q
  have h91 := ch_at s9 (by simp [n1p, n21.symm]) h8
  refine ⟨h91, ?_⟩
  have u9 : Upd d1 H9 (upd H9 d1 (.dK k1)) := .of
  have wAll : Same (hol [p, d2, d1] H7) (hol [d2] (upd H9 d1 (.dK k1))) := (((t78.trans (ch_is (N := [p, d2, d1]) s9 (by simp))).trans (u9.hol (by simp)))).trans (hol_anti (by simp))
  have hB2 := u9.at n21 h9
  generalize upd H9 d1 (.dK k1) = HB at wAll hB2
  have iscB := isc7.mono wAll
  have issB := iss7.mono wAll
  have iszB := isz7.mono wAll
  have dmB : Dom [d2] HB := .cons hB2 .nil
  clear isc7 iss7 isz7 cu dm7 dm8
  have cu := Sg.cur [d2]
  have P : POk ⟨ci, st, lim, sizes⟩ := ⟨S, Z, stl, stle, fun n l h => lin n (List.mem_map.mpr ⟨_, h, rfl⟩), ⟨3, r3, wt_small _ zlen⟩⟩
  clear wAll w57 t78 u8 u9 s9 pl7 pl8 pl9
  walk_at "gg"
  refine g_SpF cu sizes dmB (.cons iszB .nil) ⟨zlen, r3⟩ (fun dd vC HC hdd sC isC => ?_)
  subst hdd
  have hC2 := sC _ _ hB2
  have iscC := iscB.mono (same_hol sC)
  have issC := issB.mono (same_hol sC)
  have iszC := iszB.mono (same_hol sC)
  have dmC := dmB.mono sC
  clear iscB issB iszB dmB
  walk_at "gg"
  refine for_map (enc := encCh) ‹Src _ (hol [d2] HC) ((allOf (rowsOf sizes)).map encCh)› (fun i σ H' => ∃ (o : Option (Int × List Nat)) (dv : V) (o9 o11 : Option V), σ = [some v, some (.ref p), some cv, some zv, some sv, some (.ref d1), some (.ref d2), o7, some dv, o9, none, o11, none, none] ∧
    Is (hol [d2] H') (encB o) dv ∧ Due (rowsOf sizes) (Fz ⟨ci, st, lim, sizes⟩) ((allOf (rowsOf sizes)).take i) o ∧ Same HC H') ⟨none, .non, _, _, rfl, Is.non, by simpa using Due.start (rowsOf sizes) (Fz ⟨ci, st, lim, sizes⟩), Same.refl _⟩ (fun j σ H' q => ?_) (fun i ch y σ HD HE hi q sDE isx => ?_) (fun σ HD q => ?_)
  · obtain ⟨_, _, _, _, _, _, _, s⟩ := q
    exact hol_le.trans s
  · obtain ⟨o, dv, o9, o11, rfl, iso, due, sD⟩ := q
    have isx := isx [d2] (dmC.mono sD) (same_hol sD)
    have isoE := iso.mono (same_hol sDE)
    have sE := sD.trans sDE
    have dmE := dmC.mono sE
    have iscE := iscC.mono (same_hol sE)
    have issE := issC.mono (same_hol sE)
    have iszE := iszC.mono (same_hol sE)
    have full : Full (rowsOf sizes) ch := allOf_mem.mp (List.mem_of_getElem? hi)
    have chlen : ch.length = sizes.length := by rw [full.2, rowsOf_len]
    have tk : (allOf (rowsOf sizes)).take (i + 1) = (allOf (rowsOf sizes)).take i ++ [ch] := by rw [List.take_add_one, hi]; rfl
    have hlt : ∀ p ∈ (allOf (rowsOf sizes)).take i, lexLt p ch := fun p hp => by
      have hs := allOf_sorted (rowsOf sizes)
      rw [List.pairwise_iff_getElem] at hs
      obtain ⟨j, hj⟩ := List.getElem?_of_mem hp
      rw [List.getElem?_take] at hj
      by_cases w : j < i
      · rw [if_pos w] at hj
        obtain ⟨j1, j2⟩ := List.getElem?_eq_some_iff.mp hj
        obtain ⟨i1, i2⟩ := List.getElem?_eq_some_iff.mp hi
        have := hs j i j1 i1 w
        rw [j2, i2] at this
        exact this
      · rw [if_neg w] at hj
        cases hj
    clear iso
    walk_at "gg"
    unfold b2_law
    walk_at "gg"
    refine w_rng1K (n := ch.length) (by rw [List.length_map]) (by omega) ?_
    have Llen : ((sizes.zip ch).map fun p => (p.1.getD p.2 (0, [])).1).length = ch.length := by rw [List.length_map, List.length_zip]; omega
    generalize hL : ((sizes.zip ch).map fun p => (p.1.getD p.2 (0, [])).1) = L at Llen
    have Lsum : L.sum = costOf (rowsOf sizes) ch := by
      rw [← costR_eq full.1, ← hL]
      rfl
    refine lc_map (M := [d2]) (l := List.range ch.length) (enc := fun i : Nat => PyData.int ((i : Nat) : Int)) (src_range (B := hol [d2] HE)) (fun m => some (.int (L.getD m 0))) cu dmE (Same.refl _) (by rw [List.length_range]; omega) (fun m a x Lp H' Y No hm cu' dm' sM s0 isa kY kN => ?_) (fun vF HF sF isF => ?_)
    · obtain rfl := isa.int_inv
      obtain ⟨m1, m2⟩ := List.getElem?_eq_some_iff.mp hm
      rw [List.length_range] at m1
      rw [List.getElem_range] at m2
      subst m2
      obtain ⟨r, hr⟩ : ∃ r, sizes[m]? = some r := ⟨_, List.getElem?_eq_getElem (by omega)⟩
      obtain ⟨kc, hk⟩ : ∃ kc, ch[m]? = some kc := ⟨_, List.getElem?_eq_getElem m1⟩
      have kr := pre_at full.1 hr hk
      obtain ⟨s, hs⟩ : ∃ s, r[kc]? = some s := ⟨_, List.getElem?_eq_getElem kr⟩
      have eL : L.getD m 0 = s.1 := by
        have hz : (sizes.zip ch)[m]? = some (r, kc) := List.getElem?_zip_eq_some.mpr ⟨hr, hk⟩
        rw [List.getD_eq_getElem?_getD, ← hL, List.getElem?_map, hz]
        show (r.getD kc (0, [])).1 = s.1
        rw [List.getD_eq_getElem?_getD, hs]
        rfl
      have iszM := iszE.mono sM
      have isxM := isx.mono sM
      show gName 13 _ [some v, some (.ref p), some cv, some zv, some sv, some (.ref d1), some (.ref d2), o7, some dv, some y, none, o11, none, none] H' _
      walk_at "gg"
      exact kY _ _ _ (Same.refl _) (Is.int _) (by rw [eL])
    rw [fm_some] at isF
    have eF : ((List.range ch.length).map fun m => PyData.int (L.getD m 0)) = L.map PyData.int := by
      have := congrArg (List.map PyData.int) (range_getD L)
      rw [List.map_map, Llen] at this
      exact this
    rw [eF] at isF
    have isoF := isoE.mono (same_hol sF)
    have dmF := dmE.mono sF
    have sCF := sE.trans sF
    have iscF := iscC.mono (same_hol sCF)
    have issF := issC.mono (same_hol sCF)
    have iszF := iszC.mono (same_hol sCF)
    have isxF := isx.mono (same_hol sF)
    clear iscE issE iszE isoE dmE
    walk_at "gg"
    refine g_sum cu isF ?_
    rw [Lsum]
    iterate 3 walk_at "g"
    have key : ∀ QB : Bool → Hp → Prop, (∀ z, (z = true ↔ ∀ c b, o = some (c, b) → costOf (rowsOf sizes) ch < c) → QB z HF) →
        tOr (tB (tIsN (tVar 8))) (tTest (tOp (rI0 fun i j => .bl (decide (i < j))) (tVar 11) (tOp (rIxT K) (tVar 8) (tC (.int 0))))) [some v, some (.ref p), some cv, some zv, some sv, some (.ref d1), some (.ref d2), o7, some dv, some y, none, some (.int (costOf (rowsOf sizes) ch)), none, none] HF QB := fun QB hQ => by
      walk_at "gg"
      cases o with
      | none =>
        obtain rfl := isoF.none_inv
        rw [decide_eq_true rfl]
        walk_at "gg"
        exact hQ true ⟨fun _ _ _ e => (nomatch e), fun _ => rfl⟩
      | some cb =>
        obtain ⟨pa, pxs, rfl, _, _⟩ := id isoF.tup_inv
        rw [decide_eq_false (by intro z; cases z)]
        walk_at "gg"
        exact hQ _ ⟨fun h c b e => by cases e; exact of_decide_eq_true h, fun h => decide_eq_true (h _ _ rfl)⟩
    walk_at "g"
    refine key _ (fun z hz => ?_)
    clear key
    cases z with
    | false =>
      walk_at "gg"
      have hz : ¬ ∀ c b, o = some (c, b) → costOf (rowsOf sizes) ch < c := fun w => absurd (hz.mpr w) (by decide)
      refine ⟨o, dv, _, _, rfl, isoF, ?_, sCF⟩
      rw [tk]
      refine due.keep hlt (fun _ => ?_)
      cases o with
      | none => exact absurd (fun _ _ e => (nomatch e)) hz
      | some cb =>
        refine ⟨cb.1, cb.2, rfl, ?_⟩
        have : ¬ costOf (rowsOf sizes) ch < cb.1 := fun w => hz fun c b e => by cases e; exact w
        omega
    | true =>
      have hz := hz.mp rfl
      walk_at "gg"
      refine ⟨[d2], cv, sv, y, zv, ci, st, ch, sizes, rfl, dmF, iscF, issF, isxF, iszF, S, strs_of S sok, Z, stl, full.1, chlen, fun d3 k3 ts3 HG hd3 sG hG isT3 nd3 kall3 kin3 tl3 lt3 => ?_⟩
      have sFG : Same HF HG := sG.trans hol_le
      have hG2 := (sCF.trans sFG) _ _ hC2
      have n32 : d3 ≠ d2 := fun q => by
        have := sCF _ _ hC2
        rw [← q, hd3] at this
        cases this
      walk_at "gg"
      refine ⟨d3, d2, k3, k2, ts3, lim, rfl, hG, hG2, n32, isT3, isL, lnd, fun n hn => kall3 n (lin n hn), fun n hn => sok n (lin n hn), by omega, fun bb HI sI hbb => ?_⟩
      have sFI := sFG.trans sI
      have isoI := isoF.mono (same_hol sFI)
      have isxI := isxF.mono (same_hol sFI)
      have dmI := dmF.mono sFI
      cases bb with
      | false =>
        walk_at "gg"
        refine ⟨o, dv, _, _, rfl, isoI, ?_, sCF.trans sFI⟩
        rw [tk]
        refine due.keep hlt (fun hF => ?_)
        have hfull : hiP ⟨ci, st, lim, sizes⟩ ch = hiOf (rowsOf sizes) ch := hiP_full (p := ⟨ci, st, lim, sizes⟩) chlen
        have := P.mono (ch := ch) (q := []) full.1 (t := lkI ts3) (by rw [hfull]; exact lt3) (by rw [List.append_nil]; exact full) (by rw [List.append_nil]; exact hF)
        exact absurd (hbb.mpr this) (by decide)
      | true =>
        clear isoF isxF dmF iscF issF iszF
        walk_at "gg"
        rename_i vJ HJ sJ isJ
        refine ⟨some (costOf (rowsOf sizes) ch, ch), vJ, _, _, rfl, isJ, ?_, (sCF.trans sFI).trans sJ⟩
        rw [tk]
        exact due.take ⟨_, lt3, hbb.mp rfl⟩ hz
  · obtain ⟨o, dv, o9, o11, rfl, iso, due, sD⟩ := q
    rw [List.take_length] at due
    have best := due.done
    have dmD := dmC.mono sD
    have iscD := iscC.mono (same_hol sD)
    have issD := issC.mono (same_hol sD)
    have iszD := iszC.mono (same_hol sD)
    clear iscC issC iszC dmC
    walk_at "gg"
    refine lc_map (enc := encRow) ‹Src _ (hol [d2] HD) _› (fun r => some (encRow r)) cu dmD (Same.refl _) (by omega) (fun i r x L H' Y No hd cu' dm' sM s0 isx kY kN => ?_) (fun vE HE sE isE => ?_)
    · show gName 12 x [some v, some (.ref p), some cv, some zv, some sv, some (.ref d1), some (.ref d2), o7, some dv, o9, none, o11, none, none] H' _
      walk_at "gg"
      rename_i vF HF sF isF
      exact kY _ _ _ sF isF rfl
    rw [fm_some] at isE
    have dmE := dmD.mono sE
    have issE := issD.mono (same_hol sE)
    clear issD
    walk_at "gg"
    rename_i vF HF sF isF
    have sEF := sE.trans sF
    refine ⟨[d2], d2, ⟨ci, st, lim, sizes⟩, cv, vF, vE, k2, rfl, dmE.mono sF, by simp, iscD.mono (same_hol sEF), isF, isE.mono (same_hol sF), (sD.trans sEF) _ _ hC2, isL _, P, fun o' vG HG sG isG best' => ?_⟩
    obtain rfl := best'.uniq best
    have isoG := iso.mono (same_hol (sEF.trans sG))
    walk_at "gg"
    refine ⟨[d2], encB o', vG, dv, rfl, (dmE.mono sF).mono sG, isG, isoG, ok_best (fun c b e => ?_), fun HH sH => ?_⟩
    · subst e
      have := best.1.2
      rw [this, rowsOf_len]
      omega
    · walk_at "gg"
      have w : Same HD HH := (sEF.trans sG).trans sH
      refine g_eqD (n := 5) (m := 5) cu (isE.mono (same_hol ((sF.trans sG).trans sH))) (iszD.mono (same_hol w)) (cmp_SS sizes) (cmp_SS sizes) (by decide) (by decide) ?_
      rw [eqv_SS]
      exact k _
theorem ok_law {P : Program} {w : World} {K : PySem.W.Frag} {mg : Str → Option Value} {base : Heap} {f : Addr} {fd : FuncData} (F : Fun K "law" "law" s_law f fd) (T : Bl mg) (c1 : Cal P w K mg base 1 "_law_choices" spChoices) (c2 : Cal P w K mg base 4 "_law_circuit" spCircuit) (c3 : Cal P w K mg base 2 "_law_draw" spDraw) (c4 : Cal P w K mg base 2 "_law_late" spWLate) (c5 : Cal P w K mg base 1 "_law_meets" spMeets)
    (c6 : Cal P w K mg base 1 "_law_pool" (spPool K)) (c7 : Cal P w K mg base 6 "_law_same" (spS 2)) (c8 : Cal P w K mg base 3 "_law_sizes" spSizes) (c9 : Cal P w K mg base 3 "_law_starts" spStarts) (c10 : Cal P w K mg base 7 "cheapest" spCheapest) : FnOk P w K mg base CX0 8 f fd ["_law_script"] (spLaw K) :=
  F.ok sc_law (fun vs H Q E h => by
    obtain ⟨_, _, rfl, _⟩ := h
    rfl) fun cdv A outer s H vs Q E hr h => ⟨_, dv_law T c1 c2 c3 c4 c5 c6 c7 c8 c9 c10 hr, r_law h⟩

end Sg
namespace Sg
open PySem PySem.Spec PyProof.Rows L2
theorem all_mk {l : PySem.W.OpenLaw} {w : World} {K : PySem.W.Frag} {h : Heap} {mg : Str → Option Value} {fa CA CS : Addr} (X : K.In h) (G : h.Ns mainGlobals mg) (hfa : mg "law" = some (.ref fa))
    {f1 : Addr} {od1 an1 : Option Addr} {sl1 : Array (Option Value)} {oc1 kV1 dc1 pm1 cd1 ct1 : Value}
    {f2 : Addr} {od2 an2 : Option Addr} {sl2 : Array (Option Value)} {oc2 kV2 dc2 pm2 cd2 ct2 : Value}
    {f3 : Addr} {od3 an3 : Option Addr} {sl3 : Array (Option Value)} {oc3 kV3 dc3 pm3 cd3 ct3 : Value}
    {f4 : Addr} {od4 an4 : Option Addr} {sl4 : Array (Option Value)} {oc4 kV4 dc4 pm4 cd4 ct4 : Value}
    {f5 : Addr} {od5 an5 : Option Addr} {sl5 : Array (Option Value)} {oc5 kV5 dc5 pm5 cd5 ct5 : Value}
    {f6 : Addr} {od6 an6 : Option Addr} {sl6 : Array (Option Value)} {oc6 kV6 dc6 pm6 cd6 ct6 : Value}
    {f7 : Addr} {od7 an7 : Option Addr} {sl7 : Array (Option Value)} {oc7 kV7 dc7 pm7 cd7 ct7 : Value}
    {f8 : Addr} {od8 an8 : Option Addr} {sl8 : Array (Option Value)} {oc8 kV8 dc8 pm8 cd8 ct8 : Value}
    {f9 : Addr} {od9 an9 : Option Addr} {sl9 : Array (Option Value)} {oc9 kV9 dc9 pm9 cd9 ct9 : Value}
    {f10 : Addr} {od10 an10 : Option Addr} {sl10 : Array (Option Value)} {oc10 kV10 dc10 pm10 cd10 ct10 : Value}
    {f11 : Addr} {od11 an11 : Option Addr} {sl11 : Array (Option Value)} {oc11 kV11 dc11 pm11 cd11 ct11 : Value}
    {f12 : Addr} {od12 an12 : Option Addr} {sl12 : Array (Option Value)} {oc12 kV12 dc12 pm12 cd12 ct12 : Value}
    {f13 : Addr} {od13 an13 : Option Addr} {sl13 : Array (Option Value)} {oc13 kV13 dc13 pm13 cd13 ct13 : Value}
    {f14 : Addr} {od14 an14 : Option Addr} {sl14 : Array (Option Value)} {oc14 kV14 dc14 pm14 cd14 ct14 : Value}
    {f15 : Addr} {od15 an15 : Option Addr} {sl15 : Array (Option Value)} {oc15 kV15 dc15 pm15 cd15 ct15 : Value}
    {f16 : Addr} {od16 an16 : Option Addr} {sl16 : Array (Option Value)} {oc16 kV16 dc16 pm16 cd16 ct16 : Value}
    {f17 : Addr} {od17 an17 : Option Addr} {sl17 : Array (Option Value)} {oc17 kV17 dc17 pm17 cd17 ct17 : Value}
    {f18 : Addr} {od18 an18 : Option Addr} {sl18 : Array (Option Value)} {oc18 kV18 dc18 pm18 cd18 ct18 : Value}
    {f19 : Addr} {od19 an19 : Option Addr} {sl19 : Array (Option Value)} {oc19 kV19 dc19 pm19 cd19 ct19 : Value}
    {f20 : Addr} {od20 an20 : Option Addr} {sl20 : Array (Option Value)} {oc20 kV20 dc20 pm20 cd20 ct20 : Value}
    {f21 : Addr} {od21 an21 : Option Addr} {sl21 : Array (Option Value)} {oc21 kV21 dc21 pm21 cd21 ct21 : Value}
    {f22 : Addr} {od22 an22 : Option Addr} {sl22 : Array (Option Value)} {oc22 kV22 dc22 pm22 cd22 ct22 : Value}
    {f23 : Addr} {od23 an23 : Option Addr} {sl23 : Array (Option Value)} {oc23 kV23 dc23 pm23 cd23 ct23 : Value}
    {f24 : Addr} {od24 an24 : Option Addr} {sl24 : Array (Option Value)} {oc24 kV24 dc24 pm24 cd24 ct24 : Value}
    {f25 : Addr} {od25 an25 : Option Addr} {sl25 : Array (Option Value)} {oc25 kV25 dc25 pm25 cd25 ct25 : Value}
    {f26 : Addr} {od26 an26 : Option Addr} {sl26 : Array (Option Value)} {oc26 kV26 dc26 pm26 cd26 ct26 : Value}
    {f27 : Addr} {od27 an27 : Option Addr} {sl27 : Array (Option Value)} {oc27 kV27 dc27 pm27 cd27 ct27 : Value}
    {f28 : Addr} {od28 an28 : Option Addr} {sl28 : Array (Option Value)} {oc28 kV28 dc28 pm28 cd28 ct28 : Value}
    {f29 : Addr} {od29 an29 : Option Addr} {sl29 : Array (Option Value)} {oc29 kV29 dc29 pm29 cd29 ct29 : Value}
    {f30 : Addr} {od30 an30 : Option Addr} {sl30 : Array (Option Value)} {oc30 kV30 dc30 pm30 cd30 ct30 : Value}
    {f31 : Addr} {od31 an31 : Option Addr} {sl31 : Array (Option Value)} {oc31 kV31 dc31 pm31 cd31 ct31 : Value}
    {f32 : Addr} {od32 an32 : Option Addr} {sl32 : Array (Option Value)} {oc32 kV32 dc32 pm32 cd32 ct32 : Value}
    {f33 : Addr} {od33 an33 : Option Addr} {sl33 : Array (Option Value)} {oc33 kV33 dc33 pm33 cd33 ct33 : Value}
    {f34 : Addr} {od34 an34 : Option Addr} {sl34 : Array (Option Value)} {oc34 kV34 dc34 pm34 cd34 ct34 : Value}
    {f35 : Addr} {od35 an35 : Option Addr} {sl35 : Array (Option Value)} {oc35 kV35 dc35 pm35 cd35 ct35 : Value}
    {f36 : Addr} {od36 an36 : Option Addr} {sl36 : Array (Option Value)} {oc36 kV36 dc36 pm36 cd36 ct36 : Value}
    {f37 : Addr} {od37 an37 : Option Addr} {sl37 : Array (Option Value)} {oc37 kV37 dc37 pm37 cd37 ct37 : Value}
    (aA : PySem.W.nsIn K mainGlobals "Arrivals" = some (some (.ref CA))) (aS : PySem.W.nsIn K mainGlobals "Search" = some (some (.ref CS)))
    (pgA : PySem.W.plainGet K CA Str.empty = true) (hdA : PySem.W.hasDictIn K CA = true) (poA : PySem.W.plainOver K CA = true) (saA : PySem.W.findIn K (.ref CA) "__setattr__" = some (some (.builtin "object.__setattr__"))) (mkA : PySem.W.makesIn K CA = true) (kcA : PySem.W.keepIn K (.ref CA) = true)
    (nAzcircuit : PySem.W.findIn K (.ref CA) "_circuit" = some none)
    (nAzstarts : PySem.W.findIn K (.ref CA) "_starts" = some none)
    (nAzorder : PySem.W.findIn K (.ref CA) "_order" = some none)
    (nAztimes : PySem.W.findIn K (.ref CA) "_times" = some none)
    (nAztouched : PySem.W.findIn K (.ref CA) "_touched" = some none)
    (pgS : PySem.W.plainGet K CS Str.empty = true) (hdS : PySem.W.hasDictIn K CS = true) (poS : PySem.W.plainOver K CS = true) (saS : PySem.W.findIn K (.ref CS) "__setattr__" = some (some (.builtin "object.__setattr__"))) (mkS : PySem.W.makesIn K CS = true) (kcS : PySem.W.keepIn K (.ref CS) = true)
    (nScircuit : PySem.W.findIn K (.ref CS) "circuit" = some none)
    (nSstarts : PySem.W.findIn K (.ref CS) "starts" = some none)
    (nSlimits : PySem.W.findIn K (.ref CS) "limits" = some none)
    (nSsizes : PySem.W.findIn K (.ref CS) "sizes" = some none)
    (nSbest : PySem.W.findIn K (.ref CS) "best" = some none)
    (nScheap : PySem.W.findIn K (.ref CS) "cheap" = some none)
    (nSquick : PySem.W.findIn K (.ref CS) "quick" = some none)
    (zlen : PySem.W.nsIn K mainGlobals "len" = some none)
    (zlist : PySem.W.nsIn K mainGlobals "list" = some none)
    (ztuple : PySem.W.nsIn K mainGlobals "tuple" = some none)
    (zint : PySem.W.nsIn K mainGlobals "int" = some none)
    (zstr : PySem.W.nsIn K mainGlobals "str" = some none)
    (zmin : PySem.W.nsIn K mainGlobals "min" = some none)
    (zmax : PySem.W.nsIn K mainGlobals "max" = some none)
    (zsum : PySem.W.nsIn K mainGlobals "sum" = some none)
    (zall : PySem.W.nsIn K mainGlobals "all" = some none)
    (zzip : PySem.W.nsIn K mainGlobals "zip" = some none)
    (zenumerate : PySem.W.nsIn K mainGlobals "enumerate" = some none)
    (zrange : PySem.W.nsIn K mainGlobals "range" = some none)
    (zisinstance : PySem.W.nsIn K mainGlobals "isinstance" = some none)
    (zbool : PySem.W.nsIn K mainGlobals "bool" = some none)
    (a1 : PySem.W.nsIn K mainGlobals "sources" = some (some (.ref f1)))
    (l1 : K.lookup f1 = some ⟨oc1, od1, .func (PySem.W.fnOf "sources" "sources" (defArgs s_sources) (defBody s_sources) (defScope s_sources) .none kV1 dc1 pm1 an1 cd1 ct1), sl1⟩) (c1 : PySem.W.codeIn K cd1 "sources" = true) (k1 : PySem.W.keepIn K (.ref f1) = true)
    (a2 : PySem.W.nsIn K mainGlobals "all_nets" = some (some (.ref f2)))
    (l2 : K.lookup f2 = some ⟨oc2, od2, .func (PySem.W.fnOf "all_nets" "all_nets" (defArgs s_all_nets) (defBody s_all_nets) (defScope s_all_nets) .none kV2 dc2 pm2 an2 cd2 ct2), sl2⟩) (c2 : PySem.W.codeIn K cd2 "all_nets" = true) (k2 : PySem.W.keepIn K (.ref f2) = true)
    (a3 : PySem.W.nsIn K mainGlobals "check_net" = some (some (.ref f3)))
    (l3 : K.lookup f3 = some ⟨oc3, od3, .func (PySem.W.fnOf "check_net" "check_net" (defArgs s_check_net) (defBody s_check_net) (defScope s_check_net) .none kV3 dc3 pm3 an3 cd3 ct3), sl3⟩) (c3 : PySem.W.codeIn K cd3 "check_net" = true) (k3 : PySem.W.keepIn K (.ref f3) = true)
    (a4 : PySem.W.nsIn K mainGlobals "drivers" = some (some (.ref f4)))
    (l4 : K.lookup f4 = some ⟨oc4, od4, .func (PySem.W.fnOf "drivers" "drivers" (defArgs s_drivers) (defBody s_drivers) (defScope s_drivers) .none kV4 dc4 pm4 an4 cd4 ct4), sl4⟩) (c4 : PySem.W.codeIn K cd4 "drivers" = true) (k4 : PySem.W.keepIn K (.ref f4) = true)
    (a5 : PySem.W.nsIn K mainGlobals "gate_order" = some (some (.ref f5)))
    (l5 : K.lookup f5 = some ⟨oc5, od5, .func (PySem.W.fnOf "gate_order" "gate_order" (defArgs s_gate_order) (defBody s_gate_order) (defScope s_gate_order) .none kV5 dc5 pm5 an5 cd5 ct5), sl5⟩) (c5 : PySem.W.codeIn K cd5 "gate_order" = true) (k5 : PySem.W.keepIn K (.ref f5) = true)
    (a6 : PySem.W.nsIn K mainGlobals "check_delay" = some (some (.ref f6)))
    (l6 : K.lookup f6 = some ⟨oc6, od6, .func (PySem.W.fnOf "check_delay" "check_delay" (defArgs s_check_delay) (defBody s_check_delay) (defScope s_check_delay) .none kV6 dc6 pm6 an6 cd6 ct6), sl6⟩) (c6 : PySem.W.codeIn K cd6 "check_delay" = true) (k6 : PySem.W.keepIn K (.ref f6) = true)
    (a7 : PySem.W.nsIn K mainGlobals "with_ranges" = some (some (.ref f7)))
    (l7 : K.lookup f7 = some ⟨oc7, od7, .func (PySem.W.fnOf "with_ranges" "with_ranges" (defArgs s_with_ranges) (defBody s_with_ranges) (defScope s_with_ranges) .none kV7 dc7 pm7 an7 cd7 ct7), sl7⟩) (c7 : PySem.W.codeIn K cd7 "with_ranges" = true) (k7 : PySem.W.keepIn K (.ref f7) = true)
    (a8 : PySem.W.nsIn K mainGlobals "check_start" = some (some (.ref f8)))
    (l8 : K.lookup f8 = some ⟨oc8, od8, .func (PySem.W.fnOf "check_start" "check_start" (defArgs s_check_start) (defBody s_check_start) (defScope s_check_start) .none kV8 dc8 pm8 an8 cd8 ct8), sl8⟩) (c8 : PySem.W.codeIn K cd8 "check_start" = true) (k8 : PySem.W.keepIn K (.ref f8) = true)
    (a9 : PySem.W.nsIn K mainGlobals "check_sizes" = some (some (.ref f9)))
    (l9 : K.lookup f9 = some ⟨oc9, od9, .func (PySem.W.fnOf "check_sizes" "check_sizes" (defArgs s_check_sizes) (defBody s_check_sizes) (defScope s_check_sizes) .none kV9 dc9 pm9 an9 cd9 ct9), sl9⟩) (c9 : PySem.W.codeIn K cd9 "check_sizes" = true) (k9 : PySem.W.keepIn K (.ref f9) = true)
    (a10 : PySem.W.nsIn K mainGlobals "check_values" = some (some (.ref f10)))
    (l10 : K.lookup f10 = some ⟨oc10, od10, .func (PySem.W.fnOf "check_values" "check_values" (defArgs s_check_values) (defBody s_check_values) (defScope s_check_values) .none kV10 dc10 pm10 an10 cd10 ct10), sl10⟩) (c10 : PySem.W.codeIn K cd10 "check_values" = true) (k10 : PySem.W.keepIn K (.ref f10) = true)
    (a11 : PySem.W.nsIn K mainGlobals "chosen_ranges" = some (some (.ref f11)))
    (l11 : K.lookup f11 = some ⟨oc11, od11, .func (PySem.W.fnOf "chosen_ranges" "chosen_ranges" (defArgs s_chosen_ranges) (defBody s_chosen_ranges) (defScope s_chosen_ranges) .none kV11 dc11 pm11 an11 cd11 ct11), sl11⟩) (c11 : PySem.W.codeIn K cd11 "chosen_ranges" = true) (k11 : PySem.W.keepIn K (.ref f11) = true)
    (a12 : PySem.W.nsIn K mainGlobals "total_cost" = some (some (.ref f12)))
    (l12 : K.lookup f12 = some ⟨oc12, od12, .func (PySem.W.fnOf "total_cost" "total_cost" (defArgs s_total_cost) (defBody s_total_cost) (defScope s_total_cost) .none kV12 dc12 pm12 an12 cd12 ct12), sl12⟩) (c12 : PySem.W.codeIn K cd12 "total_cost" = true) (k12 : PySem.W.keepIn K (.ref f12) = true)
    (a13 : PySem.W.findIn K (.ref CA) "_arrival" = some (some (.ref f13))) (i13 : PySem.W.isFn K (.ref f13) = true)
    (l13 : K.lookup f13 = some ⟨oc13, od13, .func (PySem.W.fnOf "_arrival" "Arrivals._arrival" (defArgs s_Arrivals__arrival) (defBody s_Arrivals__arrival) (defScope s_Arrivals__arrival) .none kV13 dc13 pm13 an13 cd13 ct13), sl13⟩) (c13 : PySem.W.codeIn K cd13 "Arrivals._arrival" = true) (k13 : PySem.W.keepIn K (.ref f13) = true)
    (a14 : PySem.W.findIn K (.ref CA) "__init__" = some (some (.ref f14))) (i14 : PySem.W.isFn K (.ref f14) = true)
    (l14 : K.lookup f14 = some ⟨oc14, od14, .func (PySem.W.fnOf "__init__" "Arrivals.__init__" (defArgs s_Arrivals_init) (defBody s_Arrivals_init) (defScope s_Arrivals_init) .none kV14 dc14 pm14 an14 cd14 ct14), sl14⟩) (c14 : PySem.W.codeIn K cd14 "Arrivals.__init__" = true) (k14 : PySem.W.keepIn K (.ref f14) = true)
    (a15 : PySem.W.findIn K (.ref CA) "late" = some (some (.ref f15))) (i15 : PySem.W.isFn K (.ref f15) = true)
    (l15 : K.lookup f15 = some ⟨oc15, od15, .func (PySem.W.fnOf "late" "Arrivals.late" (defArgs s_Arrivals_late) (defBody s_Arrivals_late) (defScope s_Arrivals_late) .none kV15 dc15 pm15 an15 cd15 ct15), sl15⟩) (c15 : PySem.W.codeIn K cd15 "Arrivals.late" = true) (k15 : PySem.W.keepIn K (.ref f15) = true)
    (a16 : PySem.W.findIn K (.ref CS) "quickest" = some (some (.ref f16))) (i16 : PySem.W.isFn K (.ref f16) = true)
    (l16 : K.lookup f16 = some ⟨oc16, od16, .func (PySem.W.fnOf "quickest" "Search.quickest" (defArgs s_Search_quickest) (defBody s_Search_quickest) (defScope s_Search_quickest) .none kV16 dc16 pm16 an16 cd16 ct16), sl16⟩) (c16 : PySem.W.codeIn K cd16 "Search.quickest" = true) (k16 : PySem.W.keepIn K (.ref f16) = true)
    (a17 : PySem.W.findIn K (.ref CS) "__init__" = some (some (.ref f17))) (i17 : PySem.W.isFn K (.ref f17) = true)
    (l17 : K.lookup f17 = some ⟨oc17, od17, .func (PySem.W.fnOf "__init__" "Search.__init__" (defArgs s_Search_init) (defBody s_Search_init) (defScope s_Search_init) .none kV17 dc17 pm17 an17 cd17 ct17), sl17⟩) (c17 : PySem.W.codeIn K cd17 "Search.__init__" = true) (k17 : PySem.W.keepIn K (.ref f17) = true)
    (a18 : PySem.W.findIn K (.ref CS) "can_meet" = some (some (.ref f18))) (i18 : PySem.W.isFn K (.ref f18) = true)
    (l18 : K.lookup f18 = some ⟨oc18, od18, .func (PySem.W.fnOf "can_meet" "Search.can_meet" (defArgs s_Search_can_meet) (defBody s_Search_can_meet) (defScope s_Search_can_meet) .none kV18 dc18 pm18 an18 cd18 ct18), sl18⟩) (c18 : PySem.W.codeIn K cd18 "Search.can_meet" = true) (k18 : PySem.W.keepIn K (.ref f18) = true)
    (a19 : PySem.W.findIn K (.ref CS) "is_useless" = some (some (.ref f19))) (i19 : PySem.W.isFn K (.ref f19) = true)
    (l19 : K.lookup f19 = some ⟨oc19, od19, .func (PySem.W.fnOf "is_useless" "Search.is_useless" (defArgs s_Search_is_useless) (defBody s_Search_is_useless) (defScope s_Search_is_useless) .none kV19 dc19 pm19 an19 cd19 ct19), sl19⟩) (c19 : PySem.W.codeIn K cd19 "Search.is_useless" = true) (k19 : PySem.W.keepIn K (.ref f19) = true)
    (a20 : PySem.W.findIn K (.ref CS) "try_all" = some (some (.ref f20))) (i20 : PySem.W.isFn K (.ref f20) = true)
    (l20 : K.lookup f20 = some ⟨oc20, od20, .func (PySem.W.fnOf "try_all" "Search.try_all" (defArgs s_Search_try_all) (defBody s_Search_try_all) (defScope s_Search_try_all) .none kV20 dc20 pm20 an20 cd20 ct20), sl20⟩) (c20 : PySem.W.codeIn K cd20 "Search.try_all" = true) (k20 : PySem.W.keepIn K (.ref f20) = true)
    (a21 : PySem.W.nsIn K mainGlobals "cheapest" = some (some (.ref f21)))
    (l21 : K.lookup f21 = some ⟨oc21, od21, .func (PySem.W.fnOf "cheapest" "cheapest" (defArgs s_cheapest) (defBody s_cheapest) (defScope s_cheapest) .none kV21 dc21 pm21 an21 cd21 ct21), sl21⟩) (c21 : PySem.W.codeIn K cd21 "cheapest" = true) (k21 : PySem.W.keepIn K (.ref f21) = true)
    (a22 : PySem.W.nsIn K mainGlobals "_law_spread" = some (some (.ref f22)))
    (l22 : K.lookup f22 = some ⟨oc22, od22, .func (PySem.W.fnOf "_law_spread" "_law_spread" (defArgs s_w_spread) (defBody s_w_spread) (defScope s_w_spread) .none kV22 dc22 pm22 an22 cd22 ct22), sl22⟩) (c22 : PySem.W.codeIn K cd22 "_law_spread" = true) (k22 : PySem.W.keepIn K (.ref f22) = true)
    (a23 : PySem.W.nsIn K mainGlobals "_law_pool" = some (some (.ref f23)))
    (l23 : K.lookup f23 = some ⟨oc23, od23, .func (PySem.W.fnOf "_law_pool" "_law_pool" (defArgs s_w_pool) (defBody s_w_pool) (defScope s_w_pool) .none kV23 dc23 pm23 an23 cd23 ct23), sl23⟩) (c23 : PySem.W.codeIn K cd23 "_law_pool" = true) (k23 : PySem.W.keepIn K (.ref f23) = true)
    (a24 : PySem.W.nsIn K mainGlobals "_law_draw" = some (some (.ref f24)))
    (l24 : K.lookup f24 = some ⟨oc24, od24, .func (PySem.W.fnOf "_law_draw" "_law_draw" (defArgs s_w_draw) (defBody s_w_draw) (defScope s_w_draw) .none kV24 dc24 pm24 an24 cd24 ct24), sl24⟩) (c24 : PySem.W.codeIn K cd24 "_law_draw" = true) (k24 : PySem.W.keepIn K (.ref f24) = true)
    (a25 : PySem.W.nsIn K mainGlobals "_law_bits" = some (some (.ref f25)))
    (l25 : K.lookup f25 = some ⟨oc25, od25, .func (PySem.W.fnOf "_law_bits" "_law_bits" (defArgs s_w_bits) (defBody s_w_bits) (defScope s_w_bits) .none kV25 dc25 pm25 an25 cd25 ct25), sl25⟩) (c25 : PySem.W.codeIn K cd25 "_law_bits" = true) (k25 : PySem.W.keepIn K (.ref f25) = true)
    (a26 : PySem.W.nsIn K mainGlobals "_law_table" = some (some (.ref f26)))
    (l26 : K.lookup f26 = some ⟨oc26, od26, .func (PySem.W.fnOf "_law_table" "_law_table" (defArgs s_w_table) (defBody s_w_table) (defScope s_w_table) .none kV26 dc26 pm26 an26 cd26 ct26), sl26⟩) (c26 : PySem.W.codeIn K cd26 "_law_table" = true) (k26 : PySem.W.keepIn K (.ref f26) = true)
    (a27 : PySem.W.nsIn K mainGlobals "_law_register" = some (some (.ref f27)))
    (l27 : K.lookup f27 = some ⟨oc27, od27, .func (PySem.W.fnOf "_law_register" "_law_register" (defArgs s_w_register) (defBody s_w_register) (defScope s_w_register) .none kV27 dc27 pm27 an27 cd27 ct27), sl27⟩) (c27 : PySem.W.codeIn K cd27 "_law_register" = true) (k27 : PySem.W.keepIn K (.ref f27) = true)
    (a28 : PySem.W.nsIn K mainGlobals "_law_shuffled" = some (some (.ref f28)))
    (l28 : K.lookup f28 = some ⟨oc28, od28, .func (PySem.W.fnOf "_law_shuffled" "_law_shuffled" (defArgs s_w_shuffled) (defBody s_w_shuffled) (defScope s_w_shuffled) .none kV28 dc28 pm28 an28 cd28 ct28), sl28⟩) (c28 : PySem.W.codeIn K cd28 "_law_shuffled" = true) (k28 : PySem.W.keepIn K (.ref f28) = true)
    (a29 : PySem.W.nsIn K mainGlobals "_law_circuit" = some (some (.ref f29)))
    (l29 : K.lookup f29 = some ⟨oc29, od29, .func (PySem.W.fnOf "_law_circuit" "_law_circuit" (defArgs s_w_circuit) (defBody s_w_circuit) (defScope s_w_circuit) .none kV29 dc29 pm29 an29 cd29 ct29), sl29⟩) (c29 : PySem.W.codeIn K cd29 "_law_circuit" = true) (k29 : PySem.W.keepIn K (.ref f29) = true)
    (a30 : PySem.W.nsIn K mainGlobals "_law_order" = some (some (.ref f30)))
    (l30 : K.lookup f30 = some ⟨oc30, od30, .func (PySem.W.fnOf "_law_order" "_law_order" (defArgs s_w_order) (defBody s_w_order) (defScope s_w_order) .none kV30 dc30 pm30 an30 cd30 ct30), sl30⟩) (c30 : PySem.W.codeIn K cd30 "_law_order" = true) (k30 : PySem.W.keepIn K (.ref f30) = true)
    (a31 : PySem.W.nsIn K mainGlobals "_law_late" = some (some (.ref f31)))
    (l31 : K.lookup f31 = some ⟨oc31, od31, .func (PySem.W.fnOf "_law_late" "_law_late" (defArgs s_w_late) (defBody s_w_late) (defScope s_w_late) .none kV31 dc31 pm31 an31 cd31 ct31), sl31⟩) (c31 : PySem.W.codeIn K cd31 "_law_late" = true) (k31 : PySem.W.keepIn K (.ref f31) = true)
    (a32 : PySem.W.nsIn K mainGlobals "_law_meets" = some (some (.ref f32)))
    (l32 : K.lookup f32 = some ⟨oc32, od32, .func (PySem.W.fnOf "_law_meets" "_law_meets" (defArgs s_w_meets) (defBody s_w_meets) (defScope s_w_meets) .none kV32 dc32 pm32 an32 cd32 ct32), sl32⟩) (c32 : PySem.W.codeIn K cd32 "_law_meets" = true) (k32 : PySem.W.keepIn K (.ref f32) = true)
    (a33 : PySem.W.nsIn K mainGlobals "_law_starts" = some (some (.ref f33)))
    (l33 : K.lookup f33 = some ⟨oc33, od33, .func (PySem.W.fnOf "_law_starts" "_law_starts" (defArgs s_w_starts) (defBody s_w_starts) (defScope s_w_starts) .none kV33 dc33 pm33 an33 cd33 ct33), sl33⟩) (c33 : PySem.W.codeIn K cd33 "_law_starts" = true) (k33 : PySem.W.keepIn K (.ref f33) = true)
    (a34 : PySem.W.nsIn K mainGlobals "_law_sizes" = some (some (.ref f34)))
    (l34 : K.lookup f34 = some ⟨oc34, od34, .func (PySem.W.fnOf "_law_sizes" "_law_sizes" (defArgs s_w_sizes) (defBody s_w_sizes) (defScope s_w_sizes) .none kV34 dc34 pm34 an34 cd34 ct34), sl34⟩) (c34 : PySem.W.codeIn K cd34 "_law_sizes" = true) (k34 : PySem.W.keepIn K (.ref f34) = true)
    (a35 : PySem.W.nsIn K mainGlobals "_law_choices" = some (some (.ref f35)))
    (l35 : K.lookup f35 = some ⟨oc35, od35, .func (PySem.W.fnOf "_law_choices" "_law_choices" (defArgs s_w_choices) (defBody s_w_choices) (defScope s_w_choices) .none kV35 dc35 pm35 an35 cd35 ct35), sl35⟩) (c35 : PySem.W.codeIn K cd35 "_law_choices" = true) (k35 : PySem.W.keepIn K (.ref f35) = true)
    (a36 : PySem.W.nsIn K mainGlobals "_law_same" = some (some (.ref f36)))
    (l36 : K.lookup f36 = some ⟨oc36, od36, .func (PySem.W.fnOf "_law_same" "_law_same" (defArgs s_w_same) (defBody s_w_same) (defScope s_w_same) .none kV36 dc36 pm36 an36 cd36 ct36), sl36⟩) (c36 : PySem.W.codeIn K cd36 "_law_same" = true) (k36 : PySem.W.keepIn K (.ref f36) = true)
    (a37 : PySem.W.nsIn K mainGlobals "law" = some (some (.ref f37)))
    (l37 : K.lookup f37 = some ⟨oc37, od37, .func (PySem.W.fnOf "law" "law" (defArgs s_law) (defBody s_law) (defScope s_law) .none kV37 dc37 pm37 an37 cd37 ct37), sl37⟩) (c37 : PySem.W.codeIn K cd37 "law" = true) (k37 : PySem.W.keepIn K (.ref f37) = true)
    : ∃ fd : FuncData, (∀ (s : Shared) (v : Value), BindsTo s fd ⟨[v], []⟩ [("_law_script", v)]) ∧ ∀ base : Heap, K.In base → base.Ns mainGlobals mg → FnOk l.prog w K mg base CX0 8 fa fd ["_law_script"] (spLaw K) := by
  have e := hfa.symm.trans (PySem.W.mg_of X G a37)
  cases e
  have T : Bl mg := ⟨PySem.W.mg_none_of X G zlen, PySem.W.mg_none_of X G zlist, PySem.W.mg_none_of X G ztuple, PySem.W.mg_none_of X G zint, PySem.W.mg_none_of X G zstr, PySem.W.mg_none_of X G zmin, PySem.W.mg_none_of X G zmax, PySem.W.mg_none_of X G zsum, PySem.W.mg_none_of X G zall, PySem.W.mg_none_of X G zzip, PySem.W.mg_none_of X G zenumerate, PySem.W.mg_none_of X G zrange, PySem.W.mg_none_of X G zisinstance, PySem.W.mg_none_of X G zbool⟩
  have clA : Cls K CA := ⟨pgA, hdA, poA, saA⟩
  have clS : Cls K CS := ⟨pgS, hdS, poS, saS⟩
  have AF : AFld K CA := ⟨clA, nAzcircuit, nAzstarts, nAzorder, nAztimes, nAztouched⟩
  have SF : SFld K CS := ⟨clS, nScircuit, nSstarts, nSlimits, nSsizes, nSbest, nScheap, nSquick⟩
  have F1 := fun_mk (x := "sources") (qual := "sources") (st := s_sources) l1 c1 k1
  have b1 := F1.binds (ps := ["circuit"]) fun _ _ _ _ _ _ us hl => match us, hl with | [_], _ => rfl
  have F2 := fun_mk (x := "all_nets") (qual := "all_nets") (st := s_all_nets) l2 c2 k2
  have b2 := F2.binds (ps := ["circuit"]) fun _ _ _ _ _ _ us hl => match us, hl with | [_], _ => rfl
  have F3 := fun_mk (x := "check_net") (qual := "check_net") (st := s_check_net) l3 c3 k3
  have b3 := F3.binds (ps := ["circuit", "net"]) fun _ _ _ _ _ _ us hl => match us, hl with | [_, _], _ => rfl
  have F4 := fun_mk (x := "drivers") (qual := "drivers") (st := s_drivers) l4 c4 k4
  have b4 := F4.binds (ps := ["circuit"]) fun _ _ _ _ _ _ us hl => match us, hl with | [_], _ => rfl
  have F5 := fun_mk (x := "gate_order") (qual := "gate_order") (st := s_gate_order) l5 c5 k5
  have b5 := F5.binds (ps := ["circuit"]) fun _ _ _ _ _ _ us hl => match us, hl with | [_], _ => rfl
  have F6 := fun_mk (x := "check_delay") (qual := "check_delay") (st := s_check_delay) l6 c6 k6
  have b6 := F6.binds (ps := ["low", "high"]) fun _ _ _ _ _ _ us hl => match us, hl with | [_, _], _ => rfl
  have F7 := fun_mk (x := "with_ranges") (qual := "with_ranges") (st := s_with_ranges) l7 c7 k7
  have b7 := F7.binds (ps := ["circuit", "ranges"]) fun _ _ _ _ _ _ us hl => match us, hl with | [_, _], _ => rfl
  have F8 := fun_mk (x := "check_start") (qual := "check_start") (st := s_check_start) l8 c8 k8
  have b8 := F8.binds (ps := ["early", "late"]) fun _ _ _ _ _ _ us hl => match us, hl with | [_, _], _ => rfl
  have F9 := fun_mk (x := "check_sizes") (qual := "check_sizes") (st := s_check_sizes) l9 c9 k9
  have b9 := F9.binds (ps := ["circuit", "sizes"]) fun _ _ _ _ _ _ us hl => match us, hl with | [_, _], _ => rfl
  have F10 := fun_mk (x := "check_values") (qual := "check_values") (st := s_check_values) l10 c10 k10
  have b10 := F10.binds (ps := ["sizes"]) fun _ _ _ _ _ _ us hl => match us, hl with | [_], _ => rfl
  have F11 := fun_mk (x := "chosen_ranges") (qual := "chosen_ranges") (st := s_chosen_ranges) l11 c11 k11
  have b11 := F11.binds (ps := ["sizes", "choice"]) fun _ _ _ _ _ _ us hl => match us, hl with | [_, _], _ => rfl
  have F12 := fun_mk (x := "total_cost") (qual := "total_cost") (st := s_total_cost) l12 c12 k12
  have b12 := F12.binds (ps := ["sizes", "choice"]) fun _ _ _ _ _ _ us hl => match us, hl with | [_, _], _ => rfl
  have F13 := fun_mk (x := "_arrival") (qual := "Arrivals._arrival") (st := s_Arrivals__arrival) l13 c13 k13
  have b13 := F13.binds (ps := ["self", "index"]) fun _ _ _ _ _ _ us hl => match us, hl with | [_, _], _ => rfl
  have F14 := fun_mk (x := "__init__") (qual := "Arrivals.__init__") (st := s_Arrivals_init) l14 c14 k14
  have b14 := F14.binds (ps := ["self", "circuit", "starts"]) fun _ _ _ _ _ _ us hl => match us, hl with | [_, _, _], _ => rfl
  have F15 := fun_mk (x := "late") (qual := "Arrivals.late") (st := s_Arrivals_late) l15 c15 k15
  have b15 := F15.binds (ps := ["self", "net"]) fun _ _ _ _ _ _ us hl => match us, hl with | [_, _], _ => rfl
  have F16 := fun_mk (x := "quickest") (qual := "Search.quickest") (st := s_Search_quickest) l16 c16 k16
  have b16 := F16.binds (ps := ["self", "rows"]) fun _ _ _ _ _ _ us hl => match us, hl with | [_, _], _ => rfl
  have F17 := fun_mk (x := "__init__") (qual := "Search.__init__") (st := s_Search_init) l17 c17 k17
  have b17 := F17.binds (ps := ["self", "circuit", "starts", "limits", "sizes"]) fun _ _ _ _ _ _ us hl => match us, hl with | [_, _, _, _, _], _ => rfl
  have F18 := fun_mk (x := "can_meet") (qual := "Search.can_meet") (st := s_Search_can_meet) l18 c18 k18
  have b18 := F18.binds (ps := ["self", "choice"]) fun _ _ _ _ _ _ us hl => match us, hl with | [_, _], _ => rfl
  have F19 := fun_mk (x := "is_useless") (qual := "Search.is_useless") (st := s_Search_is_useless) l19 c19 k19
  have b19 := F19.binds (ps := ["self", "gate", "k"]) fun _ _ _ _ _ _ us hl => match us, hl with | [_, _, _], _ => rfl
  have F20 := fun_mk (x := "try_all") (qual := "Search.try_all") (st := s_Search_try_all) l20 c20 k20
  have b20 := F20.binds (ps := ["self"]) fun _ _ _ _ _ _ us hl => match us, hl with | [_], _ => rfl
  have F21 := fun_mk (x := "cheapest") (qual := "cheapest") (st := s_cheapest) l21 c21 k21
  have b21 := F21.binds (ps := ["circuit", "starts", "limits", "sizes"]) fun _ _ _ _ _ _ us hl => match us, hl with | [_, _, _, _], _ => rfl
  have F22 := fun_mk (x := "_law_spread") (qual := "_law_spread") (st := s_w_spread) l22 c22 k22
  have b22 := F22.binds (ps := ["_law_cell"]) fun _ _ _ _ _ _ us hl => match us, hl with | [_], _ => rfl
  have F23 := fun_mk (x := "_law_pool") (qual := "_law_pool") (st := s_w_pool) l23 c23 k23
  have b23 := F23.binds (ps := ["_law_script"]) fun _ _ _ _ _ _ us hl => match us, hl with | [_], _ => rfl
  have F24 := fun_mk (x := "_law_draw") (qual := "_law_draw") (st := s_w_draw) l24 c24 k24
  have b24 := F24.binds (ps := ["_law_pool_here", "_law_many"]) fun _ _ _ _ _ _ us hl => match us, hl with | [_, _], _ => rfl
  have F25 := fun_mk (x := "_law_bits") (qual := "_law_bits") (st := s_w_bits) l25 c25 k25
  have b25 := F25.binds (ps := ["_law_index", "_law_many"]) fun _ _ _ _ _ _ us hl => match us, hl with | [_, _], _ => rfl
  have F26 := fun_mk (x := "_law_table") (qual := "_law_table") (st := s_w_table) l26 c26 k26
  have b26 := F26.binds (ps := ["_law_pool_here", "_law_many"]) fun _ _ _ _ _ _ us hl => match us, hl with | [_, _], _ => rfl
  have F27 := fun_mk (x := "_law_register") (qual := "_law_register") (st := s_w_register) l27 c27 k27
  have b27 := F27.binds (ps := ["_law_pool_here", "_law_name", "_law_net"]) fun _ _ _ _ _ _ us hl => match us, hl with | [_, _, _], _ => rfl
  have F28 := fun_mk (x := "_law_shuffled") (qual := "_law_shuffled") (st := s_w_shuffled) l28 c28 k28
  have b28 := F28.binds (ps := ["_law_pool_here", "_law_rows"]) fun _ _ _ _ _ _ us hl => match us, hl with | [_, _], _ => rfl
  have F29 := fun_mk (x := "_law_circuit") (qual := "_law_circuit") (st := s_w_circuit) l29 c29 k29
  have b29 := F29.binds (ps := ["_law_pool_here", "_law_most"]) fun _ _ _ _ _ _ us hl => match us, hl with | [_, _], _ => rfl
  have F30 := fun_mk (x := "_law_order") (qual := "_law_order") (st := s_w_order) l30 c30 k30
  have b30 := F30.binds (ps := ["_law_circuit_here"]) fun _ _ _ _ _ _ us hl => match us, hl with | [_], _ => rfl
  have F31 := fun_mk (x := "_law_late") (qual := "_law_late") (st := s_w_late) l31 c31 k31
  have b31 := F31.binds (ps := ["_law_circuit_here", "_law_starts_here", "_law_choice", "_law_sizes_here"]) fun _ _ _ _ _ _ us hl => match us, hl with | [_, _, _, _], _ => rfl
  have F32 := fun_mk (x := "_law_meets") (qual := "_law_meets") (st := s_w_meets) l32 c32 k32
  have b32 := F32.binds (ps := ["_law_late_here", "_law_limits"]) fun _ _ _ _ _ _ us hl => match us, hl with | [_, _], _ => rfl
  have F33 := fun_mk (x := "_law_starts") (qual := "_law_starts") (st := s_w_starts) l33 c33 k33
  have b33 := F33.binds (ps := ["_law_pool_here", "_law_circuit_here"]) fun _ _ _ _ _ _ us hl => match us, hl with | [_, _], _ => rfl
  have F34 := fun_mk (x := "_law_sizes") (qual := "_law_sizes") (st := s_w_sizes) l34 c34 k34
  have b34 := F34.binds (ps := ["_law_pool_here", "_law_circuit_here"]) fun _ _ _ _ _ _ us hl => match us, hl with | [_, _], _ => rfl
  have F35 := fun_mk (x := "_law_choices") (qual := "_law_choices") (st := s_w_choices) l35 c35 k35
  have b35 := F35.binds (ps := ["_law_sizes_here"]) fun _ _ _ _ _ _ us hl => match us, hl with | [_], _ => rfl
  have F36 := fun_mk (x := "_law_same") (qual := "_law_same") (st := s_w_same) l36 c36 k36
  have b36 := F36.binds (ps := ["_law_actual", "_law_due"]) fun _ _ _ _ _ _ us hl => match us, hl with | [_, _], _ => rfl
  have F37 := fun_mk (x := "law") (qual := "law") (st := s_law) l37 c37 k37
  have b37 := F37.binds (ps := ["_law_script"]) fun _ _ _ _ _ _ us hl => match us, hl with | [_], _ => rfl
  refine ⟨PySem.W.fnOf "law" "law" (defArgs s_law) (defBody s_law) (defScope s_law) .none kV37 dc37 pm37 an37 cd37 ct37, fun s v => .of_eq rfl, fun base _ _ => ?_⟩
  have c_sources : Cal l.prog w K mg base 1 "sources" spSources := ⟨⟨_, _, _, (ok_sources F1 T), PySem.W.mg_of X G a1, k1, b1⟩⟩
  have c_all_nets : Cal l.prog w K mg base 2 "all_nets" spAllNets := ⟨⟨_, _, _, (ok_all_nets F2 T c_sources), PySem.W.mg_of X G a2, k2, b2⟩⟩
  have c_check_net : Cal l.prog w K mg base 3 "check_net" spCheckNet := ⟨⟨_, _, _, (ok_check_net F3 T c_all_nets), PySem.W.mg_of X G a3, k3, b3⟩⟩
  have c_drivers : Cal l.prog w K mg base 1 "drivers" spDrivers := ⟨⟨_, _, _, (ok_drivers F4 T), PySem.W.mg_of X G a4, k4, b4⟩⟩
  have c_gate_order : Cal l.prog w K mg base 2 "gate_order" spGateOrder := ⟨⟨_, _, _, (ok_gate_order F5 T c_drivers), PySem.W.mg_of X G a5, k5, b5⟩⟩
  have c_check_delay : Cal l.prog w K mg base 1 "check_delay" spCheckDelay := ⟨⟨_, _, _, (ok_check_delay F6 T), PySem.W.mg_of X G a6, k6, b6⟩⟩
  have c_with_ranges : Cal l.prog w K mg base 1 "with_ranges" spWithRanges := ⟨⟨_, _, _, (ok_with_ranges F7 T), PySem.W.mg_of X G a7, k7, b7⟩⟩
  have c_check_start : Cal l.prog w K mg base 1 "check_start" spCheckStart := ⟨⟨_, _, _, (ok_check_start F8 T), PySem.W.mg_of X G a8, k8, b8⟩⟩
  have c_check_sizes : Cal l.prog w K mg base 1 "check_sizes" spCheckSizes := ⟨⟨_, _, _, (ok_check_sizes F9 T), PySem.W.mg_of X G a9, k9, b9⟩⟩
  have c_check_values : Cal l.prog w K mg base 2 "check_values" spCheckValues := ⟨⟨_, _, _, (ok_check_values F10 T c_check_delay), PySem.W.mg_of X G a10, k10, b10⟩⟩
  have c_chosen_ranges : Cal l.prog w K mg base 1 "chosen_ranges" spChosenRanges := ⟨⟨_, _, _, (ok_chosen_ranges F11 T), PySem.W.mg_of X G a11, k11, b11⟩⟩
  have c_total_cost : Cal l.prog w K mg base 1 "total_cost" spTotalCost := ⟨⟨_, _, _, (ok_total_cost F12 T), PySem.W.mg_of X G a12, k12, b12⟩⟩
  have c_A_arrival : Met l.prog w K mg base 1 CA "_arrival" (spArrival CA) := ⟨⟨_, _, _, clA, ⟨a13, i13, k13⟩, (ok_arrival F13 T AF), b13⟩⟩
  have c_A_init : Mak l.prog w K mg base 3 "Arrivals" CA (spArrInit CA) := ⟨⟨_, _, _, ⟨mkA, a14, i14, kcA⟩, (ok_arr_init F14 T AF c_A_arrival c_check_start c_gate_order c_sources), PySem.W.mg_of X G aA, b14⟩⟩
  have c_A_late : Met l.prog w K mg base 4 CA "late" (spLate CA) := ⟨⟨_, _, _, clA, ⟨a15, i15, k15⟩, (ok_late F15 T AF c_check_net), b15⟩⟩
  have c_S_quickest : Met l.prog w K mg base 1 CS "quickest" spQuickest := ⟨⟨_, _, _, clS, ⟨a16, i16, k16⟩, (ok_quickest F16 T), b16⟩⟩
  have c_S_init : Mak l.prog w K mg base 2 "Search" CS (spSearchInit CS) := ⟨⟨_, _, _, ⟨mkS, a17, i17, kcS⟩, (ok_search_init F17 T SF c_S_quickest), PySem.W.mg_of X G aS, b17⟩⟩
  have c_S_can_meet : Met l.prog w K mg base 5 CS "can_meet" (spCanMeet CS) := ⟨⟨_, _, _, clS, ⟨a18, i18, k18⟩, (ok_can_meet F18 T SF c_A_init c_A_late c_chosen_ranges c_with_ranges), b18⟩⟩
  have c_S_is_useless : Met l.prog w K mg base 1 CS "is_useless" (spUseless CS) := ⟨⟨_, _, _, clS, ⟨a19, i19, k19⟩, (ok_useless F19 T SF), b19⟩⟩
  have c_S_try_all : Met l.prog w K mg base 6 CS "try_all" (spTryAll CS) := ⟨⟨_, _, _, clS, ⟨a20, i20, k20⟩, (ok_try_all F20 T SF c_S_can_meet c_S_is_useless c_total_cost), b20⟩⟩
  have c_cheapest : Cal l.prog w K mg base 7 "cheapest" spCheapest := ⟨⟨_, _, _, (ok_cheapest F21 T SF c_A_init c_S_init c_S_try_all c_check_net c_check_sizes c_check_values), PySem.W.mg_of X G a21, k21, b21⟩⟩
  have c_w_spread : Cal l.prog w K mg base 1 "_law_spread" spSpread := ⟨⟨_, _, _, (ok_spread F22 T), PySem.W.mg_of X G a22, k22, b22⟩⟩
  have c_w_pool : Cal l.prog w K mg base 1 "_law_pool" (spPool K) := ⟨⟨_, _, _, (ok_pool F23 T), PySem.W.mg_of X G a23, k23, b23⟩⟩
  have c_w_draw : Cal l.prog w K mg base 2 "_law_draw" spDraw := ⟨⟨_, _, _, (ok_draw F24 T c_w_spread), PySem.W.mg_of X G a24, k24, b24⟩⟩
  have c_w_bits : Cal l.prog w K mg base 1 "_law_bits" spBits := ⟨⟨_, _, _, (ok_bits F25 T), PySem.W.mg_of X G a25, k25, b25⟩⟩
  have c_w_table : Cal l.prog w K mg base 3 "_law_table" spTable := ⟨⟨_, _, _, (ok_table F26 T c_w_bits c_w_draw), PySem.W.mg_of X G a26, k26, b26⟩⟩
  have c_w_register : Cal l.prog w K mg base 3 "_law_register" spRegister := ⟨⟨_, _, _, (ok_register F27 T c_w_draw), PySem.W.mg_of X G a27, k27, b27⟩⟩
  have c_w_shuffled : Cal l.prog w K mg base 3 "_law_shuffled" spShuffled := ⟨⟨_, _, _, (ok_shuffled F28 T c_w_draw), PySem.W.mg_of X G a28, k28, b28⟩⟩
  have c_w_circuit : Cal l.prog w K mg base 4 "_law_circuit" spCircuit := ⟨⟨_, _, _, (ok_circuit F29 T c_w_draw c_w_register c_w_shuffled c_w_table), PySem.W.mg_of X G a29, k29, b29⟩⟩
  have c_w_order : Cal l.prog w K mg base 1 "_law_order" spOrder := ⟨⟨_, _, _, (ok_order F30 T), PySem.W.mg_of X G a30, k30, b30⟩⟩
  have c_w_late : Cal l.prog w K mg base 2 "_law_late" spWLate := ⟨⟨_, _, _, (ok_late_w F31 T c_w_order), PySem.W.mg_of X G a31, k31, b31⟩⟩
  have c_w_meets : Cal l.prog w K mg base 1 "_law_meets" spMeets := ⟨⟨_, _, _, (ok_meets F32 T), PySem.W.mg_of X G a32, k32, b32⟩⟩
  have c_w_starts : Cal l.prog w K mg base 3 "_law_starts" spStarts := ⟨⟨_, _, _, (ok_starts F33 T c_w_draw), PySem.W.mg_of X G a33, k33, b33⟩⟩
  have c_w_sizes : Cal l.prog w K mg base 3 "_law_sizes" spSizes := ⟨⟨_, _, _, (ok_sizes F34 T c_w_draw), PySem.W.mg_of X G a34, k34, b34⟩⟩
  have c_w_choices : Cal l.prog w K mg base 1 "_law_choices" spChoices := ⟨⟨_, _, _, (ok_choices F35 T), PySem.W.mg_of X G a35, k35, b35⟩⟩
  have q0 : Cal l.prog w K mg base 3 "_law_same" spNo := ⟨⟨_, _, _, ok_same0 F36, PySem.W.mg_of X G a36, k36, b36⟩⟩
  have q1 : Cal l.prog w K mg base 4 "_law_same" (spS 0) := ⟨⟨_, _, _, ok_same F36 T (nn := 0) (fun m e => nomatch e) q0, PySem.W.mg_of X G a36, k36, b36⟩⟩
  have q2 : Cal l.prog w K mg base 5 "_law_same" (spS 1) := ⟨⟨_, _, _, ok_same F36 T (nn := 1) (fun m e => by cases e; rfl) q1, PySem.W.mg_of X G a36, k36, b36⟩⟩
  have c_w_same : Cal l.prog w K mg base 6 "_law_same" (spS 2) := ⟨⟨_, _, _, ok_same F36 T (nn := 2) (fun m e => by cases e; rfl) q2, PySem.W.mg_of X G a36, k36, b36⟩⟩
  exact ok_law F37 T c_w_choices c_w_circuit c_w_draw c_w_late c_w_meets c_w_pool c_w_same c_w_sizes c_w_starts c_cheapest
theorem walk {l : PySem.W.OpenLaw} {q : Program} {loose : List Str} {XP : (Str → Option Value) → Heap → Prop} {YP : World → Heap → Prop} {d : DefRec} {K : Params → PySem.W.Frag} (hn : l.most = some 63) (hdf : d.params.defaults = [])
    (hY : ∀ (w : World) (h : Heap), YP w h → (K w.params).In h)
    (F : ∀ (w : World) (mg : Str → Option Value) (fa : Addr) (h : Heap), (K w.params).In h → h.Ns mainGlobals mg → mg d.name = some (.ref fa) →
      ∃ fd : FuncData, (∀ (s : Shared) (u : Value), BindsTo s fd ⟨[u], []⟩ [("_law_script", u)]) ∧ ∀ base : Heap, (K w.params).In base → base.Ns mainGlobals mg → FnOk l.prog w (K w.params) mg base CX0 8 fa fd ["_law_script"] (spLaw (K w.params))) :
    PySem.W.WalkO q loose XP YP l.row.toRowW d [] (fun f vs => PySem.call f vs) :=
  L2.walk_of (n := 63) (k := 8) (x := "_law_script") (CX := fun _ => CX0) (sp := fun w => spLaw (K w.params)) hn (by decide) hdf ⟨rfl, by decide, by decide⟩ hY F (fun _ _ a ns hl _ hS => ⟨ns, a, rfl, hS, fun _ => rfl⟩) fun _ _ _ _ _ z => z
end Sg
open PySem PySem.W PyProof.Rows in
set_option maxRecDepth 100000 in
set_option maxHeartbeats 0 in
theorem PySem.Challenge.cw_signoff_k82_whole_cheapest_choice_holds : PySem.Challenge.rw_signoff_k82_whole_cheapest_choice.Holds := by
  w_on; o_law; k_head; (case hw => w_witness2)
  k_fill
  refine Sg.walk (l := PySem.Challenge.rw_signoff_k82_whole_cheapest_choice) rfl rfl (fun w h Y => PySem.W.kIn_of Y) ?F
  case F =>
    intro w mg fa h KX G hmg
    refine' Sg.all_mk KX G hmg ?aA ?aS ?pgA ?hdA ?poA ?saA ?mkA ?kcA ?nAzcircuit ?nAzstarts ?nAzorder ?nAztimes ?nAztouched ?pgS ?hdS ?poS ?saS ?mkS ?kcS ?nScircuit ?nSstarts ?nSlimits ?nSsizes ?nSbest ?nScheap ?nSquick ?zlen ?zlist ?ztuple ?zint ?zstr ?zmin ?zmax ?zsum ?zall ?zzip ?zenumerate ?zrange ?zisinstance ?zbool ?a1 ?l1 ?c1 ?k1 ?a2 ?l2 ?c2 ?k2 ?a3 ?l3 ?c3 ?k3 ?a4 ?l4 ?c4 ?k4 ?a5 ?l5 ?c5 ?k5 ?a6 ?l6 ?c6 ?k6 ?a7 ?l7 ?c7 ?k7 ?a8 ?l8 ?c8 ?k8 ?a9 ?l9 ?c9 ?k9 ?a10 ?l10 ?c10 ?k10 ?a11 ?l11 ?c11 ?k11 ?a12 ?l12 ?c12 ?k12 ?a13 ?i13 ?l13 ?c13 ?k13 ?a14 ?i14 ?l14 ?c14 ?k14 ?a15 ?i15 ?l15 ?c15 ?k15 ?a16 ?i16 ?l16 ?c16 ?k16 ?a17 ?i17 ?l17 ?c17 ?k17 ?a18 ?i18 ?l18 ?c18 ?k18 ?a19 ?i19 ?l19 ?c19 ?k19 ?a20 ?i20 ?l20 ?c20 ?k20 ?a21 ?l21 ?c21 ?k21 ?a22 ?l22 ?c22 ?k22 ?a23 ?l23 ?c23 ?k23 ?a24 ?l24 ?c24 ?k24 ?a25 ?l25 ?c25 ?k25 ?a26 ?l26 ?c26 ?k26 ?a27 ?l27 ?c27 ?k27 ?a28 ?l28 ?c28 ?k28 ?a29 ?l29 ?c29 ?k29 ?a30 ?l30 ?c30 ?k30 ?a31 ?l31 ?c31 ?k31 ?a32 ?l32 ?c32 ?k32 ?a33 ?l33 ?c33 ?k33 ?a34 ?l34 ?c34 ?k34 ?a35 ?l35 ?c35 ?k35 ?a36 ?l36 ?c36 ?k36 ?a37 ?l37 ?c37 ?k37
    (case aA => k_is)
    (case aS => k_is)
    (case pgA => k_is)
    (case hdA => k_is)
    (case poA => k_is)
    (case saA => k_is)
    (case mkA => k_is)
    (case kcA => k_is)
    (case nAzcircuit => k_is)
    (case nAzstarts => k_is)
    (case nAzorder => k_is)
    (case nAztimes => k_is)
    (case nAztouched => k_is)
    (case pgS => k_is)
    (case hdS => k_is)
    (case poS => k_is)
    (case saS => k_is)
    (case mkS => k_is)
    (case kcS => k_is)
    (case nScircuit => k_is)
    (case nSstarts => k_is)
    (case nSlimits => k_is)
    (case nSsizes => k_is)
    (case nSbest => k_is)
    (case nScheap => k_is)
    (case nSquick => k_is)
    (case zlen => k_is)
    (case zlist => k_is)
    (case ztuple => k_is)
    (case zint => k_is)
    (case zstr => k_is)
    (case zmin => k_is)
    (case zmax => k_is)
    (case zsum => k_is)
    (case zall => k_is)
    (case zzip => k_is)
    (case zenumerate => k_is)
    (case zrange => k_is)
    (case zisinstance => k_is)
    (case zbool => k_is)
    (case a1 => k_is)
    (case l1 => k_is)
    (case c1 => k_is)
    (case k1 => k_is)
    (case a2 => k_is)
    (case l2 => k_is)
    (case c2 => k_is)
    (case k2 => k_is)
    (case a3 => k_is)
    (case l3 => k_is)
    (case c3 => k_is)
    (case k3 => k_is)
    (case a4 => k_is)
    (case l4 => k_is)
    (case c4 => k_is)
    (case k4 => k_is)
    (case a5 => k_is)
    (case l5 => k_is)
    (case c5 => k_is)
    (case k5 => k_is)
    (case a6 => k_is)
    (case l6 => k_is)
    (case c6 => k_is)
    (case k6 => k_is)
    (case a7 => k_is)
    (case l7 => k_is)
    (case c7 => k_is)
    (case k7 => k_is)
    (case a8 => k_is)
    (case l8 => k_is)
    (case c8 => k_is)
    (case k8 => k_is)
    (case a9 => k_is)
    (case l9 => k_is)
    (case c9 => k_is)
    (case k9 => k_is)
    (case a10 => k_is)
    (case l10 => k_is)
    (case c10 => k_is)
    (case k10 => k_is)
    (case a11 => k_is)
    (case l11 => k_is)
    (case c11 => k_is)
    (case k11 => k_is)
    (case a12 => k_is)
    (case l12 => k_is)
    (case c12 => k_is)
    (case k12 => k_is)
    (case a13 => k_is)
    (case i13 => k_is)
    (case l13 => k_is)
    (case c13 => k_is)
    (case k13 => k_is)
    (case a14 => k_is)
    (case i14 => k_is)
    (case l14 => k_is)
    (case c14 => k_is)
    (case k14 => k_is)
    (case a15 => k_is)
    (case i15 => k_is)
    (case l15 => k_is)
    (case c15 => k_is)
    (case k15 => k_is)
    (case a16 => k_is)
    (case i16 => k_is)
    (case l16 => k_is)
    (case c16 => k_is)
    (case k16 => k_is)
    (case a17 => k_is)
    (case i17 => k_is)
    (case l17 => k_is)
    (case c17 => k_is)
    (case k17 => k_is)
    (case a18 => k_is)
    (case i18 => k_is)
    (case l18 => k_is)
    (case c18 => k_is)
    (case k18 => k_is)
    (case a19 => k_is)
    (case i19 => k_is)
    (case l19 => k_is)
    (case c19 => k_is)
    (case k19 => k_is)
    (case a20 => k_is)
    (case i20 => k_is)
    (case l20 => k_is)
    (case c20 => k_is)
    (case k20 => k_is)
    (case a21 => k_is)
    (case l21 => k_is)
    (case c21 => k_is)
    (case k21 => k_is)
    (case a22 => k_is)
    (case l22 => k_is)
    (case c22 => k_is)
    (case k22 => k_is)
    (case a23 => k_is)
    (case l23 => k_is)
    (case c23 => k_is)
    (case k23 => k_is)
    (case a24 => k_is)
    (case l24 => k_is)
    (case c24 => k_is)
    (case k24 => k_is)
    (case a25 => k_is)
    (case l25 => k_is)
    (case c25 => k_is)
    (case k25 => k_is)
    (case a26 => k_is)
    (case l26 => k_is)
    (case c26 => k_is)
    (case k26 => k_is)
    (case a27 => k_is)
    (case l27 => k_is)
    (case c27 => k_is)
    (case k27 => k_is)
    (case a28 => k_is)
    (case l28 => k_is)
    (case c28 => k_is)
    (case k28 => k_is)
    (case a29 => k_is)
    (case l29 => k_is)
    (case c29 => k_is)
    (case k29 => k_is)
    (case a30 => k_is)
    (case l30 => k_is)
    (case c30 => k_is)
    (case k30 => k_is)
    (case a31 => k_is)
    (case l31 => k_is)
    (case c31 => k_is)
    (case k31 => k_is)
    (case a32 => k_is)
    (case l32 => k_is)
    (case c32 => k_is)
    (case k32 => k_is)
    (case a33 => k_is)
    (case l33 => k_is)
    (case c33 => k_is)
    (case k33 => k_is)
    (case a34 => k_is)
    (case l34 => k_is)
    (case c34 => k_is)
    (case k34 => k_is)
    (case a35 => k_is)
    (case l35 => k_is)
    (case c35 => k_is)
    (case k35 => k_is)
    (case a36 => k_is)
    (case l36 => k_is)
    (case c36 => k_is)
    (case k36 => k_is)
    (case a37 => k_is)
    (case l37 => k_is)
    (case c37 => k_is)
    (case k37 => k_is)

