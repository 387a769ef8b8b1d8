import PyProof.Rows.All
import Wide.All
import OpenK.AllK
import Wide.FinOn
import HandS.ForMost
import HandS.Zip
import HandS.Walk
import KE.GoesNew
import HandS.TupMul
import HandS.SetKeys
import KE.KDictKeyed
import HandS.DictComp
import HandS.SortInts
import KE.SortData
import HandS.Ends
import PyProof.ReprRoads
import HandS.IsInst
import HandS.Conv
import HandS.TupAny
import HandS.TupLen
import HandS.Small
import HandS.Defaults
import HandS.MakeKw
import HandS.WordsDict
import HandS.Steps
import HandS.Style
import PySem.Challenge.RW_onewitness_k20_whole_finer_counters_neve
set_option Elab.async false
set_option linter.all false
set_option maxRecDepth 100000
set_option maxHeartbeats 4200000
/-! ## OWMath -/
/-! OWMath: words of deeds, what counters tell, partings, and the fewest standings; no program in sight. -/
namespace OW
variable {α : Type}

/-! ### words -/
def runA (act : Nat → α → α) (w : List Nat) (x : α) : α := w.foldl (fun x d => act d x) x
theorem runA_nil (act : Nat → α → α) (x : α) : runA act [] x = x := rfl
theorem runA_cons (act : Nat → α → α) (d : Nat) (w : List Nat) (x : α) : runA act (d :: w) x = runA act w (act d x) := rfl
theorem runA_append (act : Nat → α → α) (u v : List Nat) (x : α) : runA act (u ++ v) x = runA act v (runA act u x) := by
  unfold runA; rw [List.foldl_append]
def Wd (D : Nat) (w : List Nat) : Prop := ∀ d, d ∈ w → d < D
theorem Wd.nil {D : Nat} : Wd D [] := fun _ h => nomatch h
theorem Wd.cons {D d : Nat} {w : List Nat} (h : d < D) (hw : Wd D w) : Wd D (d :: w) := fun e he => by
  obtain rfl | he := List.mem_cons.mp he
  · exact h
  · exact hw e he
theorem Wd.head {D d : Nat} {w : List Nat} (h : Wd D (d :: w)) : d < D := h d List.mem_cons_self
theorem Wd.tail {D d : Nat} {w : List Nat} (h : Wd D (d :: w)) : Wd D w := fun e he => h e (List.mem_cons_of_mem _ he)
theorem Wd.app {D : Nat} {u v : List Nat} (hu : Wd D u) (hv : Wd D v) : Wd D (u ++ v) := fun e he => by
  obtain h | h := List.mem_append.mp he
  · exact hu e h
  · exact hv e h
theorem Wd.rep {D d n : Nat} (h : d < D) : Wd D (List.replicate n d) := fun e he => by
  rw [List.eq_of_mem_replicate he]; exact h
def Cong (D : Nat) (R : Nat → Nat) (w w' : List Nat) : Prop := ∀ d, d < D → w.count d % R d = w'.count d % R d
theorem Cong.rfl' {D : Nat} {R : Nat → Nat} {w : List Nat} : Cong D R w w := fun _ _ => rfl
theorem Cong.symm {D : Nat} {R : Nat → Nat} {w w' : List Nat} (h : Cong D R w w') : Cong D R w' w := fun d hd => (h d hd).symm
theorem Cong.trans {D : Nat} {R : Nat → Nat} {w w' w2 : List Nat} (h : Cong D R w w') (h2 : Cong D R w' w2) : Cong D R w w2 := fun d hd => (h d hd).trans (h2 d hd)
theorem mod_add {a b c d r : Nat} (h : a % r = b % r) (h' : c % r = d % r) : (a + c) % r = (b + d) % r := by
  rw [Nat.add_mod a c r, h, h', ← Nat.add_mod]
theorem Cong.app {D : Nat} {R : Nat → Nat} {u u' v v' : List Nat} (h : Cong D R u u') (h2 : Cong D R v v') : Cong D R (u ++ v) (u' ++ v') := fun d hd => by
  rw [List.count_append, List.count_append]; exact mod_add (h d hd) (h2 d hd)
theorem Cong.of_perm {D : Nat} {R : Nat → Nat} {u u' : List Nat} (h : u.Perm u') : Cong D R u u' := fun d _ => by rw [h.count_eq]

def RchA (act : Nat → α → α) (D : Nat) (x0 x : α) : Prop := ∃ w, Wd D w ∧ runA act w x0 = x
theorem RchA.start {act : Nat → α → α} {D : Nat} {x0 : α} : RchA act D x0 x0 := ⟨[], Wd.nil, rfl⟩
theorem RchA.step {act : Nat → α → α} {D : Nat} {x0 x : α} (h : RchA act D x0 x) {d : Nat} (hd : d < D) : RchA act D x0 (act d x) := by
  obtain ⟨w, hw, e⟩ := h
  exact ⟨w ++ [d], hw.app (Wd.cons hd Wd.nil), by rw [runA_append, e]; rfl⟩
theorem RchA.run {act : Nat → α → α} {D : Nat} {x0 x : α} (h : RchA act D x0 x) {u : List Nat} (hu : Wd D u) : RchA act D x0 (runA act u x) := by
  obtain ⟨w, hw, e⟩ := h
  exact ⟨w ++ u, hw.app hu, by rw [runA_append, e]⟩
/-- each deed, done N times, leads every thing that comes to itself -/
def Per (act : Nat → α → α) (D : Nat) (x0 : α) (N : Nat) : Prop := 1 ≤ N ∧ ∀ d, d < D → ∀ x, RchA act D x0 x → runA act (List.replicate N d) x = x
/-- the word that leads back -/
def inv (N : Nat) : List Nat → List Nat
  | [] => []
  | d :: w => inv N w ++ List.replicate (N - 1) d
theorem inv_wd {D N : Nat} : ∀ {w : List Nat}, Wd D w → Wd D (inv N w)
  | [], _ => Wd.nil
  | _ :: _, h => (inv_wd h.tail).app (Wd.rep h.head)
theorem inv_run {act : Nat → α → α} {D : Nat} {x0 : α} {N : Nat} (P : Per act D x0 N) : ∀ {w : List Nat} {x : α}, Wd D w → RchA act D x0 x → runA act (inv N w) (runA act w x) = x
  | [], _, _, _ => rfl
  | d :: w, x, h, hx => by
    show runA act (inv N w ++ List.replicate (N - 1) d) (runA act w (act d x)) = x
    rw [runA_append, inv_run P h.tail (hx.step h.head)]
    have e : List.replicate N d = d :: List.replicate (N - 1) d := by
      have := P.1
      obtain ⟨k, rfl⟩ : ∃ k, N = k + 1 := ⟨N - 1, by omega⟩
      rfl
    have q := P.2 d h.head x hx
    rw [e, runA_cons] at q
    exact q

/-! ### things that words of one showing lead to -/
def EqvA (act : Nat → α → α) (D : Nat) (R : Nat → Nat) (x0 p q : α) : Prop := ∃ w w', Wd D w ∧ Wd D w' ∧ Cong D R w w' ∧ runA act w x0 = p ∧ runA act w' x0 = q
section
variable {act : Nat → α → α} {D : Nat} {R : Nat → Nat} {x0 p q r : α}
theorem EqvA.refl (h : RchA act D x0 p) : EqvA act D R x0 p p := by
  obtain ⟨w, hw, e⟩ := h
  exact ⟨w, w, hw, hw, Cong.rfl', e, e⟩
theorem EqvA.symm (h : EqvA act D R x0 p q) : EqvA act D R x0 q p := by
  obtain ⟨w, w', a, b, c, e1, e2⟩ := h
  exact ⟨w', w, b, a, c.symm, e2, e1⟩
theorem EqvA.trans {N : Nat} (P : Per act D x0 N) (h : EqvA act D R x0 p q) (h2 : EqvA act D R x0 q r) : EqvA act D R x0 p r := by
  obtain ⟨w, w', a, b, c, e1, e2⟩ := h
  obtain ⟨v, v', a', b', c', f1, f2⟩ := h2
  -- v : x0 → q, back, w : x0 → p ;  w' : x0 → q, back, v' : x0 → r
  refine ⟨v ++ inv N v ++ w, w' ++ inv N v ++ v', (a'.app (inv_wd a')).app a, (b.app (inv_wd a')).app b', ?_, ?_, ?_⟩
  · have s1 : Cong D R (v ++ inv N v ++ w) (w ++ inv N v ++ v) := fun d _ => by
      simp only [List.count_append]; congr 1; omega
    exact s1.trans ((c.app Cong.rfl').app c')
  · rw [runA_append, runA_append, inv_run P a' RchA.start, e1]
  · have hb : runA act (inv N v) q = x0 := by rw [← f1]; exact inv_run P a' RchA.start
    rw [runA_append, runA_append, e2, hb, f2]
theorem EqvA.step (h : EqvA act D R x0 p q) {d : Nat} (hd : d < D) : EqvA act D R x0 (act d p) (act d q) := by
  obtain ⟨w, w', a, b, c, e1, e2⟩ := h
  refine ⟨w ++ [d], w' ++ [d], a.app (Wd.cons hd Wd.nil), b.app (Wd.cons hd Wd.nil), c.app Cong.rfl', ?_, ?_⟩
  · rw [runA_append, e1]; rfl
  · rw [runA_append, e2]; rfl
theorem EqvA.of_cong (h : RchA act D x0 p) {u u' : List Nat} (hu : Wd D u) (hu' : Wd D u') (c : Cong D R u u') : EqvA act D R x0 (runA act u p) (runA act u' p) := by
  obtain ⟨w, hw, e⟩ := h
  exact ⟨w ++ u, w ++ u', hw.app hu, hw.app hu', Cong.rfl'.app c, by rw [runA_append, e], by rw [runA_append, e]⟩
/-- a whole list of things of one lot: words of one showing to them all -/
theorem EqvA.many {N : Nat} (P : Per act D x0 N) : ∀ (l : List α), (∀ s, s ∈ l → EqvA act D R x0 p s) → RchA act D x0 p →
    ∃ u, Wd D u ∧ runA act u x0 = p ∧ ∀ s, s ∈ l → ∃ v, Wd D v ∧ Cong D R v u ∧ runA act v x0 = s
  | [], _, hp => by
    obtain ⟨u, hu, e⟩ := hp
    exact ⟨u, hu, e, fun _ h => nomatch h⟩
  | s :: l, h, hp => by
    obtain ⟨u, hu, eu, hl⟩ := EqvA.many P l (fun t ht => h t (List.mem_cons_of_mem _ ht)) hp
    obtain ⟨v, v', hv, hv', c, e1, e2⟩ := h s List.mem_cons_self
    have back : ∀ {z : List Nat}, Wd D z → runA act z x0 = p → runA act (inv N v) (runA act z x0) = x0 := fun {z} _ ez => by
      rw [ez, ← e1]; exact inv_run P hv RchA.start
    refine ⟨v ++ inv N v ++ u, (hv.app (inv_wd hv)).app hu, ?_, fun t ht => ?_⟩
    · rw [runA_append, runA_append, back hv e1, eu]
    obtain rfl | ht := List.mem_cons.mp ht
    · refine ⟨u ++ inv N v ++ v', (hu.app (inv_wd hv)).app hv', ?_, ?_⟩
      · have s1 : Cong D R (v ++ inv N v ++ u) (u ++ inv N v ++ v) := fun d _ => by
          simp only [List.count_append]; congr 1; omega
        exact ((Cong.rfl'.app Cong.rfl').app c.symm).trans s1.symm
      · rw [runA_append, runA_append, back hu eu, e2]
    · obtain ⟨y, hy, cy, ey⟩ := hl t ht
      refine ⟨v ++ inv N v ++ y, (hv.app (inv_wd hv)).app hy, (Cong.rfl'.app cy), ?_⟩
      rw [runA_append, runA_append, back hv e1, ey]
end

/-! ### the least parting: known unions, closed under known moves -/
inductive Gen (D : Nat) (mv : Nat → α → Option α) (dom : α → Prop) (U : α → α → Prop) : α → α → Prop
  | refl {x : α} : dom x → Gen D mv dom U x x
  | base {x y : α} : U x y → Gen D mv dom U x y
  | symm {x y : α} : Gen D mv dom U x y → Gen D mv dom U y x
  | trans {x y z : α} : Gen D mv dom U x y → Gen D mv dom U y z → Gen D mv dom U x z
  | move {x y x' y' : α} {d : Nat} : d < D → Gen D mv dom U x y → mv d x = some x' → mv d y = some y' → Gen D mv dom U x' y'

section
variable {D : Nat} {mv : Nat → α → Option α} {dom : α → Prop} {U : α → α → Prop} {act : Nat → α → α}
/-- the parting is within what words of one showing join (through a map f of the things) -/
theorem Gen.into {β : Type} {bct : Nat → β → β} {R : Nat → Nat} {b0 : β} {N : Nat} (P : Per bct D b0 N) (f : α → β)
    (hd : ∀ x, dom x → RchA bct D b0 (f x)) (hm : ∀ d x y, d < D → mv d x = some y → f y = bct d (f x)) (hU : ∀ x y, U x y → EqvA bct D R b0 (f x) (f y)) :
    ∀ {x y : α}, Gen D mv dom U x y → EqvA bct D R b0 (f x) (f y) := by
  intro x y h
  induction h with
  | refl h => exact EqvA.refl (hd _ h)
  | base h => exact hU _ _ h
  | symm _ ih => exact ih.symm
  | trans _ _ ih1 ih2 => exact ih1.trans P ih2
  | move h _ e1 e2 ih => rw [hm _ _ _ h e1, hm _ _ _ h e2]; exact ih.step h
/-- moves that are known of all things -/
structure Full (D : Nat) (mv : Nat → α → Option α) (dom : α → Prop) (act : Nat → α → α) : Prop where
  mv : ∀ d x, d < D → dom x → mv d x = some (act d x)
  cl : ∀ d x, d < D → dom x → dom (act d x)
theorem Full.run (F : Full D mv dom act) : ∀ {w : List Nat} {x : α}, Wd D w → dom x → dom (runA act w x)
  | [], _, _, h => h
  | d :: w, x, hw, h => Full.run F (w := w) (x := act d x) hw.tail (F.cl _ _ hw.head h)
theorem Gen.along (F : Full D mv dom act) : ∀ {w : List Nat} {x y : α}, Wd D w → dom x → dom y → Gen D mv dom U x y → Gen D mv dom U (runA act w x) (runA act w y)
  | [], _, _, _, _, _, h => h
  | d :: w, x, y, hw, hx, hy, h => Gen.along F (w := w) (x := act d x) (y := act d y) hw.tail (F.cl _ _ hw.head hx) (F.cl _ _ hw.head hy) (.move hw.head h (F.mv _ _ hw.head hx) (F.mv _ _ hw.head hy))
theorem Gen.perm (F : Full D mv dom act) (hc : ∀ p a b, dom p → a < b → b < D → U (act b (act a p)) (act a (act b p))) {w w' : List Nat} (h : w.Perm w') :
    ∀ {p : α}, Wd D w → dom p → Gen D mv dom U (runA act w p) (runA act w' p) := by
  induction h with
  | nil => intro p _ hp; exact .refl hp
  | cons x _ ih => intro p hw hp; exact ih hw.tail (F.cl _ _ hw.head hp)
  | swap x y l =>
    intro p hw hp
    -- y :: x :: l, x :: y :: l
    have hy : y < D := hw.head
    have hx : x < D := hw.tail.head
    have d1 := F.cl x _ hx (F.cl y p hy hp)
    have d2 := F.cl y _ hy (F.cl x p hx hp)
    refine Gen.along F hw.tail.tail d1 d2 ?_
    rcases Nat.lt_trichotomy x y with h | h | h
    · exact .symm (.base (hc p x y hp h hy))
    · subst h; exact .refl d1
    · exact .base (hc p y x hp h hx)
  | trans h1 _ ih1 ih2 =>
    intro p hw hp
    exact .trans (ih1 hw hp) (ih2 (fun d hd => hw d (h1.mem_iff.mpr hd)) hp)
theorem rep_add (act : Nat → α → α) (d a b : Nat) (x : α) : runA act (List.replicate (a + b) d) x = runA act (List.replicate b d) (runA act (List.replicate a d) x) := by
  rw [← runA_append, List.replicate_append_replicate]
theorem Gen.rep (F : Full D mv dom act) {r d : Nat} (hd : d < D) (hr : 0 < r → ∀ p, dom p → U p (runA act (List.replicate r d) p)) : ∀ (n : Nat) {p : α}, dom p →
    Gen D mv dom U (runA act (List.replicate n d) p) (runA act (List.replicate (n % r) d) p) := by
  intro n
  induction n using Nat.strongRecOn with | ind n ih =>
    intro p hp
    by_cases h0 : r = 0
    · subst h0; rw [Nat.mod_zero]; exact .refl (F.run (Wd.rep hd) hp)
    by_cases hn : n < r
    · rw [Nat.mod_eq_of_lt hn]; exact .refl (F.run (Wd.rep hd) hp)
    · have e : n = r + (n - r) := by omega
      have e2 : n % r = (n - r) % r := Nat.mod_eq_sub_mod (by omega)
      rw [e2]
      refine .trans ?_ (ih (n - r) (by omega) hp)
      have q := Gen.along (U := U) F (w := List.replicate (n - r) d) (Wd.rep hd) hp (F.run (Wd.rep (n := r) hd) hp) (.base (hr (by omega) p hp))
      rw [← rep_add act d r (n - r) p, ← e] at q
      exact q.symm
def canon (c : Nat → Nat) : Nat → List Nat
  | 0 => []
  | k + 1 => canon c k ++ List.replicate (c k) k
theorem canon_wd (c : Nat → Nat) : ∀ k, Wd k (canon c k)
  | 0 => Wd.nil
  | k + 1 => by
    refine Wd.app (fun d hd => Nat.lt_succ_of_lt (canon_wd c k d hd)) (Wd.rep (Nat.lt_succ_self k))
theorem canon_count (c : Nat → Nat) : ∀ k d, (canon c k).count d = if d < k then c d else 0
  | 0, d => by simp [canon]
  | k + 1, d => by
    show (canon c k ++ List.replicate (c k) k).count d = _
    rw [List.count_append, canon_count c k d, List.count_replicate]
    by_cases h1 : d < k
    · have h2 : ¬ k = d := by omega
      have h3 : d < k + 1 := by omega
      simp [h1, h2, h3]
    · by_cases h2 : k = d
      · subst h2; simp
      · have h3 : ¬ d < k + 1 := by omega
        simp [h1, h2, h3]
theorem canon_perm {w : List Nat} (hw : Wd D w) : w.Perm (canon (fun d => w.count d) D) := by
  refine List.perm_iff_count.mpr fun d => ?_
  rw [canon_count]
  by_cases h : d < D
  · rw [if_pos h]
  · rw [if_neg h]
    exact List.count_eq_zero.mpr fun hm => h (hw d hm)
theorem Gen.canon (F : Full D mv dom act) {R : Nat → Nat} (hr : ∀ d, d < D → 0 < R d → ∀ p, dom p → U p (runA act (List.replicate (R d) d) p)) {c c' : Nat → Nat} : ∀ (k : Nat), k ≤ D → (∀ d, d < k → c d % R d = c' d % R d) → ∀ {p : α}, dom p →
    Gen D mv dom U (runA act (canon c k) p) (runA act (canon c' k) p)
  | 0, _, _, _, hp => .refl hp
  | k + 1, hk, h, p, hp => by
    have hkD : k < D := hk
    have w1 : ∀ c : Nat → Nat, Wd D (OW.canon c k) := fun c d hd => Nat.lt_trans (canon_wd c k d hd) hkD
    have ih := Gen.canon F hr (c := c) (c' := c') k (Nat.le_of_lt hkD) (fun d hd => h d (Nat.lt_succ_of_lt hd)) hp
    show Gen D mv dom U (runA act (OW.canon c k ++ List.replicate (c k) k) p) (runA act (OW.canon c' k ++ List.replicate (c' k) k) p)
    rw [runA_append, runA_append]
    have d1 := F.run (w1 c) hp
    have d2 := F.run (w1 c') hp
    refine .trans (Gen.along F (Wd.rep hkD) d1 d2 ih) ?_
    have q1 := Gen.rep (U := U) F hkD (hr k hkD) (c k) d2
    have q2 := Gen.rep (U := U) F hkD (hr k hkD) (c' k) d2
    rw [h k (Nat.lt_succ_self k)] at q1
    exact q1.trans q2.symm
/-- words of one showing lead to one lot -/
theorem Gen.cong (F : Full D mv dom act) {R : Nat → Nat} (hc : ∀ p a b, dom p → a < b → b < D → U (act b (act a p)) (act a (act b p))) (hr : ∀ d, d < D → 0 < R d → ∀ p, dom p → U p (runA act (List.replicate (R d) d) p))
    {w w' : List Nat} (hw : Wd D w) (hw' : Wd D w') (c : Cong D R w w') {p : α} (hp : dom p) : Gen D mv dom U (runA act w p) (runA act w' p) :=
  (Gen.perm F hc (canon_perm hw) hw hp).trans ((Gen.canon F hr D (Nat.le_refl D) c hp).trans (Gen.perm F hc (canon_perm hw') hw' hp).symm)
end

/-! ### finite lists -/
theorem nodup_sub [DecidableEq α] : ∀ {l m : List α}, l.Nodup → (∀ x, x ∈ l → x ∈ m) → l.length ≤ m.length
  | [], _, _, _ => by exact Nat.zero_le _
  | a :: l, m, nd, h => by
    have hn := List.nodup_cons.mp nd
    have ih := nodup_sub (m := m.erase a) hn.2 (fun x hx => by
      have hxm := h x (List.mem_cons_of_mem _ hx)
      have hne : x ≠ a := fun e => hn.1 (e ▸ hx)
      exact (List.mem_erase_of_ne hne).mpr hxm)
    have hm := h a List.mem_cons_self
    have e := List.length_erase_of_mem hm
    have hp : 0 < m.length := List.length_pos_of_mem hm
    rw [List.length_cons]; omega
theorem nodup_map {β : Type} {f : α → β} : ∀ {l : List α}, l.Nodup → (∀ x, x ∈ l → ∀ y, y ∈ l → f x = f y → x = y) → (l.map f).Nodup
  | [], _, _ => List.nodup_nil
  | a :: l, nd, h => by
    have hn := List.nodup_cons.mp nd
    rw [List.map_cons]
    refine List.nodup_cons.mpr ⟨fun hm => ?_, nodup_map hn.2 fun x hx y hy => h x (List.mem_cons_of_mem _ hx) y (List.mem_cons_of_mem _ hy)⟩
    have ⟨b, hb, e⟩ := List.mem_map.mp hm
    have := h b (List.mem_cons_of_mem _ hb) a List.mem_cons_self e
    exact hn.1 (this ▸ hb)
def iter (f : α → α) : Nat → α → α
  | 0, x => x
  | n + 1, x => iter f n (f x)
theorem iter_succ' (f : α → α) : ∀ n x, iter f (n + 1) x = f (iter f n x)
  | 0, _ => rfl
  | n + 1, x => iter_succ' f n (f x)
theorem iter_add (f : α → α) : ∀ a b x, iter f (a + b) x = iter f b (iter f a x)
  | 0, b, x => by rw [Nat.zero_add]; rfl
  | a + 1, b, x => by
    rw [Nat.add_right_comm]
    exact iter_add f a b (f x)
theorem iter_mem {f : α → α} {L : List α} (cl : ∀ x, x ∈ L → f x ∈ L) : ∀ n {x : α}, x ∈ L → iter f n x ∈ L
  | 0, _, h => h
  | n + 1, _, h => iter_mem cl n (cl _ h)
theorem iter_inj {f : α → α} {L : List α} (cl : ∀ x, x ∈ L → f x ∈ L) (inj : ∀ x, x ∈ L → ∀ y, y ∈ L → f x = f y → x = y) : ∀ n {x y : α}, x ∈ L → y ∈ L → iter f n x = iter f n y → x = y
  | 0, _, _, _, _, e => e
  | n + 1, _, _, hx, hy, e => inj _ hx _ hy (iter_inj cl inj n (cl _ hx) (cl _ hy) e)
theorem not_nodup_dup [DecidableEq α] : ∀ {l : List α}, ¬ l.Nodup → ∃ i j, i < j ∧ ∃ (hj : j < l.length) (hi : i < l.length), l[i] = l[j]
  | [], h => absurd List.nodup_nil h
  | a :: l, h => by
    by_cases ha : a ∈ l
    · obtain ⟨j, hj, e⟩ := List.getElem_of_mem ha
      exact ⟨0, j + 1, Nat.succ_pos _, by simpa using hj, Nat.succ_pos _, by simpa using e.symm⟩
    · have hl : ¬ l.Nodup := fun nd => h (List.nodup_cons.mpr ⟨ha, nd⟩)
      obtain ⟨i, j, hij, hj, hi, e⟩ := not_nodup_dup hl
      exact ⟨i + 1, j + 1, Nat.succ_lt_succ hij, by simpa using hj, by simpa using hi, by simpa using e⟩
theorem period [DecidableEq α] {f : α → α} {L : List α} (cl : ∀ x, x ∈ L → f x ∈ L) (inj : ∀ x, x ∈ L → ∀ y, y ∈ L → f x = f y → x = y) {x : α} (hx : x ∈ L) : ∃ k, 1 ≤ k ∧ k ≤ L.length ∧ iter f k x = x := by
  let M := (List.range (L.length + 1)).map (fun i => iter f i x)
  have hlen : M.length = L.length + 1 := by simp [M]
  have hnd : ¬ M.Nodup := fun nd => by
    have := nodup_sub nd (m := L) (fun y hy => by
      obtain ⟨i, _, rfl⟩ := List.mem_map.mp hy
      exact iter_mem cl i hx)
    omega
  obtain ⟨i, j, hij, hj, hi, e⟩ := not_nodup_dup hnd
  have e' : iter f i x = iter f j x := by simpa [M] using e
  have ej : j = (j - i) + i := by omega
  rw [ej, iter_add] at e'
  have := iter_inj cl inj i hx (iter_mem cl (j - i) hx) e'
  exact ⟨j - i, by omega, by omega, this.symm⟩
theorem iter_mul {f : α → α} {k : Nat} {x : α} (h : iter f k x = x) : ∀ m, iter f (k * m) x = x
  | 0 => rfl
  | m + 1 => by rw [Nat.mul_succ, iter_add, iter_mul h m, h]
theorem runA_rep (act : Nat → α → α) (d : Nat) : ∀ n x, runA act (List.replicate n d) x = iter (act d) n x
  | 0, _ => rfl
  | n + 1, x => runA_rep act d n (act d x)
end OW

/-! ## OWSpec -/
/-! OWSpec: machines, witnesses, begun witnesses; no program in sight. -/
namespace OW
open Classical in
theorem dec_em (p : Prop) : p ∨ ¬ p := Classical.em p

def actT (T : List (List Nat)) (d s : Nat) : Nat := (T.getD d []).getD s 0
def actP (T W : List (List Nat)) (d : Nat) (p : Nat × Nat) : Nat × Nat := (actT T d p.1, actT W d p.2)
theorem run_pair (T W : List (List Nat)) : ∀ (w : List Nat) (s a : Nat), runA (actP T W) w (s, a) = (runA (actT T) w s, runA (actT W) w a)
  | [], _, _ => rfl
  | d :: w, s, a => run_pair T W w (actT T d s) (actT W d a)
def rd (R : List Nat) (d : Nat) : Nat := R.getD d 0

structure Mach (T : List (List Nat)) (f : Nat) (S : List Nat) : Prop where
  len1 : 1 ≤ T.length
  len2 : T.length ≤ 2
  nd : S.Nodup
  mem : ∀ s, s ∈ S ↔ RchA (actT T) T.length f s
  small : S.length ≤ 4
  inj : ∀ d, d < T.length → ∀ s, s ∈ S → ∀ t, t ∈ S → actT T d s = actT T d t → s = t
theorem Mach.first {T : List (List Nat)} {f : Nat} {S : List Nat} (M : Mach T f S) : f ∈ S := (M.mem f).mpr RchA.start
theorem Mach.cl {T : List (List Nat)} {f : Nat} {S : List Nat} (M : Mach T f S) {d : Nat} (hd : d < T.length) {s : Nat} (hs : s ∈ S) : actT T d s ∈ S := (M.mem _).mpr (((M.mem _).mp hs).step hd)
theorem Mach.pos {T : List (List Nat)} {f : Nat} {S : List Nat} (M : Mach T f S) : 1 ≤ S.length := List.length_pos_of_mem M.first

def Wit (D m : Nat) (W : List (List Nat)) : Prop := ∀ d, d < D → (W.getD d []).length = m ∧ (W.getD d []).Nodup ∧ ∀ x, x ∈ W.getD d [] → x < m
theorem getD_at {α : Type} {l : List α} {i : Nat} {x : α} (h : i < l.length) : l.getD i x = l[i] := by simp [List.getD, h]
theorem getD_mem {α : Type} {l : List α} {i : Nat} {x : α} (h : i < l.length) : l.getD i x ∈ l := by
  have e : l.getD i x = l[i] := by simp [List.getD, h]
  rw [e]; exact List.getElem_mem h
theorem nodup_getD {α : Type} {l : List α} (nd : l.Nodup) {i j : Nat} {x : α} (hi : i < l.length) (hj : j < l.length) (e : l.getD i x = l.getD j x) : i = j := by
  have e1 : l.getD i x = l[i] := by simp [List.getD, hi]
  have e2 : l.getD j x = l[j] := by simp [List.getD, hj]
  rw [e1, e2] at e
  exact (List.getElem_inj nd).mp e
theorem Wit.lt {D m : Nat} {W : List (List Nat)} (h : Wit D m W) {d a : Nat} (hd : d < D) (ha : a < m) : actT W d a < m := by
  obtain ⟨h1, _, h3⟩ := h d hd
  exact h3 _ (getD_mem (by rw [h1]; exact ha))
theorem Wit.inj {D m : Nat} {W : List (List Nat)} (h : Wit D m W) {d a b : Nat} (hd : d < D) (ha : a < m) (hb : b < m) (e : actT W d a = actT W d b) : a = b := by
  obtain ⟨h1, h2, _⟩ := h d hd
  exact nodup_getD h2 (by rw [h1]; exact ha) (by rw [h1]; exact hb) e
theorem Wit.rch {D m : Nat} {W : List (List Nat)} (h : Wit D m W) (hm : 1 ≤ m) {a : Nat} (ha : RchA (actT W) D 0 a) : a < m := by
  obtain ⟨w, hw, e⟩ := ha
  have : ∀ (w : List Nat) (a : Nat), Wd D w → a < m → runA (actT W) w a < m := by
    intro w
    induction w with
    | nil => intro a _ h; exact h
    | cons d w ih => intro a hw ha; exact ih _ hw.tail (h.lt hw.head ha)
  rw [← e]; exact this w 0 hw hm

def turnOf (n : Nat) : Nat := [1, 1, 2, 6, 12].getD n 0
theorem turn_dvd : ∀ {n k : Nat}, n ≤ 4 → 1 ≤ k → k ≤ n → k ∣ turnOf n := by
  have h : ∀ n, n < 5 → ∀ k, k < 5 → 1 ≤ k → k ≤ n → k ∣ turnOf n := by decide
  intro n k h1 h2 h3
  exact h n (by omega) k (by omega) h2 h3
theorem turn_pos {n : Nat} (h : n ≤ 4) : 1 ≤ turnOf n := by
  have h' : ∀ n, n < 5 → 1 ≤ turnOf n := by decide
  exact h' n (by omega)

section
variable {T : List (List Nat)} {f : Nat} {S : List Nat}
theorem Mach.turn (M : Mach T f S) {d s : Nat} (hd : d < T.length) (hs : s ∈ S) : iter (actT T d) (turnOf S.length) s = s := by
  obtain ⟨k, k1, k2, e⟩ := period (f := actT T d) (L := S) (fun x hx => M.cl hd hx) (fun x hx y hy h => M.inj d hd x hx y hy h) hs
  obtain ⟨q, e2⟩ := turn_dvd M.small k1 k2
  rw [e2]; exact iter_mul e q
theorem Wit.turn {D m n : Nat} {W : List (List Nat)} (h : Wit D m W) (hmn : m ≤ n) (hn : n ≤ 4) {d a : Nat} (hd : d < D) (ha : a < m) : iter (actT W d) (turnOf n) a = a := by
  obtain ⟨k, k1, k2, e⟩ := period (f := actT W d) (L := List.range m) (fun x hx => List.mem_range.mpr (h.lt hd (List.mem_range.mp hx)))
    (fun x hx y hy e => h.inj hd (List.mem_range.mp hx) (List.mem_range.mp hy) e) (x := a) (List.mem_range.mpr ha)
  rw [List.length_range] at k2
  obtain ⟨q, e2⟩ := turn_dvd hn k1 (Nat.le_trans k2 hmn)
  rw [e2]; exact iter_mul e q
theorem Mach.per (M : Mach T f S) : Per (actT T) T.length f (turnOf S.length) := ⟨turn_pos M.small, fun d hd x hx => by
  rw [runA_rep]; exact M.turn hd ((M.mem x).mpr hx)⟩
theorem rch_pair {W : List (List Nat)} {D : Nat} {p : Nat × Nat} (h : RchA (actP T W) D (f, 0) p) : RchA (actT T) D f p.1 ∧ RchA (actT W) D 0 p.2 := by
  obtain ⟨w, hw, e⟩ := h
  rw [run_pair] at e
  subst e
  exact ⟨⟨w, hw, rfl⟩, ⟨w, hw, rfl⟩⟩
theorem Mach.perP (M : Mach T f S) {m : Nat} {W : List (List Nat)} (h : Wit T.length m W) (hm : 1 ≤ m) (hmn : m ≤ S.length) : Per (actP T W) T.length (f, 0) (turnOf S.length) := ⟨turn_pos M.small, fun d hd x hx => by
  obtain ⟨h1, h2⟩ := rch_pair hx
  obtain ⟨s, a⟩ := x
  rw [run_pair, runA_rep, runA_rep, M.turn hd ((M.mem s).mpr h1), h.turn hmn M.small hd (h.rch hm h2)]⟩

def Tells (T : List (List Nat)) (f : Nat) (R : Nat → Nat) (W : List (List Nat)) : Prop :=
  ∀ w w', Wd T.length w → Wd T.length w' → Cong T.length R w w' → runA (actT W) w 0 = runA (actT W) w' 0 → runA (actT T) w f = runA (actT T) w' f
theorem Tells.eqv {R : Nat → Nat} {W : List (List Nat)} (h : Tells T f R W) {p q : Nat × Nat} (e : EqvA (actP T W) T.length R (f, 0) p q) (h2 : p.2 = q.2) : p.1 = q.1 := by
  obtain ⟨w, w', hw, hw', c, rfl, rfl⟩ := e
  rw [run_pair, run_pair] at h2 ⊢
  exact h w w' hw hw' c h2

/-- the fewest standings, at most as many as states come -/
structure Fewest (T : List (List Nat)) (f : Nat) (S : List Nat) (R : Nat → Nat) (m : Nat) : Prop where
  pos : 1 ≤ m
  le : m ≤ S.length
  some : m < S.length → ∃ W, Wit T.length m W ∧ Tells T f R W
  none : ∀ k W, 1 ≤ k → k < m → Wit T.length k W → ¬ Tells T f R W
theorem Fewest.finer {R R' : Nat → Nat} {m m' : Nat} (h : Fewest T f S R m) (h' : Fewest T f S R' m') (fin : ∀ d, d < T.length → ∀ a b, a % R' d = b % R' d → a % R d = b % R d) : m' ≤ m := by
  refine Nat.le_of_not_lt fun hlt => ?_
  obtain ⟨W, hW, ht⟩ := h.some (Nat.lt_of_lt_of_le hlt h'.le)
  exact h'.none m W h.pos hlt hW fun w w' hw hw' c e => ht w w' hw hw' (fun d hd => fin d hd _ _ (c d hd)) e
theorem Fewest.unique {R : Nat → Nat} {m m' : Nat} (h : Fewest T f S R m) (h' : Fewest T f S R m') : m = m' :=
  Nat.le_antisymm (h'.finer h fun _ _ _ _ e => e) (h.finer h' fun _ _ _ _ e => e)

/-- pads: whole turns of each deed, that lead nowhere -/
theorem runA_canon {α : Type} {act : Nat → α → α} {D : Nat} {x0 : α} {N : Nat} (P : Per act D x0 N) (q : Nat → Nat) : ∀ (k : Nat), k ≤ D → ∀ {x : α}, RchA act D x0 x → runA act (canon (fun d => N * q d) k) x = x
  | 0, _, _, _ => rfl
  | k + 1, hk, x, hx => by
    show runA act (canon (fun d => N * q d) k ++ List.replicate (N * q k) k) x = x
    rw [runA_append, runA_canon P q k (Nat.le_of_lt hk) hx, runA_rep]
    have e := P.2 k hk x hx
    rw [runA_rep] at e
    exact iter_mul e (q k)
theorem Tells.of_zero (M : Mach T f S) {m : Nat} {W : List (List Nat)} (hW : Wit T.length m W) (hm : 1 ≤ m) (hmn : m ≤ S.length) (h : Tells T f (fun _ => 0) W) : Tells T f (fun _ => turnOf S.length) W := by
  intro w w' hw hw' c e
  have P := M.perP hW hm hmn
  generalize hN : turnOf S.length = N at *
  let q : Nat → Nat := fun d => w.count d / N
  let q' : Nat → Nat := fun d => w'.count d / N
  have hq : ∀ q : Nat → Nat, Wd T.length (canon (fun d => N * q d) T.length) := fun q => canon_wd _ _
  have key : ∀ {u : List Nat} (q : Nat → Nat), Wd T.length u → runA (actP T W) (u ++ canon (fun d => N * q d) T.length) (f, 0) = runA (actP T W) u (f, 0) := fun {u} q hu => by
    rw [runA_append]; exact runA_canon P q _ (Nat.le_refl _) ⟨u, hu, rfl⟩
  have k1 := key q' hw
  have k2 := key q hw'
  rw [run_pair, run_pair] at k1 k2
  have a1 := congrArg Prod.fst k1
  have a2 := congrArg Prod.snd k1
  have b1 := congrArg Prod.fst k2
  have b2 := congrArg Prod.snd k2
  simp only at a1 a2 b1 b2
  have r := h (w ++ canon (fun d => N * q' d) T.length) (w' ++ canon (fun d => N * q d) T.length) (hw.app (hq q')) (hw'.app (hq q)) (fun d hd => by
    rw [List.count_append, List.count_append, canon_count, canon_count, if_pos hd, if_pos hd]
    have c1 := c d hd
    have e1 := Nat.div_add_mod (w.count d) N
    have e2 := Nat.div_add_mod (w'.count d) N
    show (w.count d + N * (w'.count d / N)) % 0 = (w'.count d + N * (w.count d / N)) % 0
    congr 1
    simp only at c1
    omega) (by rw [a2, b2]; exact e)
  rw [a1, b1] at r
  exact r
theorem Fewest.zero (M : Mach T f S) {m m' : Nat} (h : Fewest T f S (fun _ => 0) m) (h' : Fewest T f S (fun _ => turnOf S.length) m') : m = m' := by
  refine Nat.le_antisymm (h'.finer h fun d _ a b e => ?_) (Nat.le_of_not_lt fun hlt => ?_)
  · rw [Nat.mod_zero, Nat.mod_zero] at e; rw [e]
  · have hm : m < S.length := Nat.lt_of_lt_of_le hlt h'.le
    obtain ⟨W, hW, ht⟩ := h.some hm
    exact h'.none m W h.pos hlt hW (ht.of_zero M hW h.pos (Nat.le_of_lt hm))

/-! ### the fold is a lower bound -/
theorem fold_le (M : Mach T f S) {R : Nat → Nat} {W : List (List Nat)} (ht : Tells T f R W) {lot : List Nat} (nd : lot.Nodup) {b : Nat} (hb : RchA (actT T) T.length f b)
    (h : ∀ s, s ∈ lot → EqvA (actT T) T.length R f b s) {Z : List Nat} (hz : ∀ a, RchA (actT W) T.length 0 a → a ∈ Z) : lot.length ≤ Z.length := by
  obtain ⟨u, hu, _, hl⟩ := EqvA.many M.per lot h hb
  have hl' : ∀ s, ∃ v, s ∈ lot → Wd T.length v ∧ Cong T.length R v u ∧ runA (actT T) v f = s := fun s => by
    by_cases hs : s ∈ lot
    · obtain ⟨v, q⟩ := hl s hs
      exact ⟨v, fun _ => q⟩
    · exact ⟨[], fun h => absurd h hs⟩
  have nd2 : (lot.map (fun s => runA (actT W) (Classical.choose (hl' s)) 0)).Nodup := nodup_map nd fun x hx y hy e => by
    obtain ⟨a1, a2, a3⟩ := Classical.choose_spec (hl' x) hx
    obtain ⟨b1, b2, b3⟩ := Classical.choose_spec (hl' y) hy
    have := ht _ _ a1 b1 (a2.trans b2.symm) e
    rw [a3, b3] at this
    exact this
  have := nodup_sub nd2 (m := Z) fun z hzm => by
    obtain ⟨s, hs, rfl⟩ := List.mem_map.mp hzm
    obtain ⟨a1, _, _⟩ := Classical.choose_spec (hl' s) hs
    exact hz _ ⟨_, a1, rfl⟩
  rw [List.length_map] at this
  exact this
end

/-! ### begun witnesses -/
abbrev Bgn := List (List (Option Nat))
def bval (B : Bgn) (d a : Nat) : Option Nat := (B.getD d []).getD a none
def mvB (T : List (List Nat)) (B : Bgn) (d : Nat) (p : Nat × Nat) : Option (Nat × Nat) := (bval B d p.2).map fun b => (actT T d p.1, b)
def kEnd {α : Type} (mv : Nat → α → Option α) (row : List Nat) (p : α) : Option α := row.foldl (fun o d => o.bind (mv d)) (some p)
theorem kEnd_bind {α : Type} (mv : Nat → α → Option α) : ∀ (row : List Nat) (o : Option α), row.foldl (fun o d => o.bind (mv d)) o = o.bind (kEnd mv row)
  | row, none => by
    induction row with
    | nil => rfl
    | cons d row ih => exact ih
  | row, some p => rfl
theorem kEnd_cons {α : Type} (mv : Nat → α → Option α) (d : Nat) (row : List Nat) (p : α) : kEnd mv (d :: row) p = (mv d p).bind (kEnd mv row) := kEnd_bind mv row (mv d p)
theorem kEnd_app {α : Type} (mv : Nat → α → Option α) (u v : List Nat) (p : α) : kEnd mv (u ++ v) p = (kEnd mv u p).bind (kEnd mv v) := by
  unfold kEnd; rw [List.foldl_append]; exact kEnd_bind mv v _
/-- the things that come by known moves -/
def DomB (D : Nat) (T : List (List Nat)) (f : Nat) (B : Bgn) (p : Nat × Nat) : Prop := ∃ w, Wd D w ∧ kEnd (mvB T B) w (f, 0) = some p
theorem DomB.start {D : Nat} {T : List (List Nat)} {f : Nat} {B : Bgn} : DomB D T f B (f, 0) := ⟨[], Wd.nil, rfl⟩
theorem DomB.step {D : Nat} {T : List (List Nat)} {f : Nat} {B : Bgn} {p q : Nat × Nat} (h : DomB D T f B p) {d : Nat} (hd : d < D) (e : mvB T B d p = some q) : DomB D T f B q := by
  obtain ⟨w, hw, ew⟩ := h
  refine ⟨w ++ [d], hw.app (Wd.cons hd Wd.nil), ?_⟩
  rw [kEnd_app, ew]
  show kEnd (mvB T B) [d] p = some q
  rw [kEnd_cons, e]; rfl
/-- orders and rounds, as far as is known -/
def UnB {α : Type} (D : Nat) (R : Nat → Nat) (mv : Nat → α → Option α) (dom : α → Prop) (x y : α) : Prop :=
  (∃ p a b, dom p ∧ a < b ∧ b < D ∧ kEnd mv [a, b] p = some x ∧ kEnd mv [b, a] p = some y) ∨ (∃ p d, dom p ∧ d < D ∧ 0 < R d ∧ x = p ∧ kEnd mv (List.replicate (R d) d) p = some y)
def GenB (D : Nat) (T : List (List Nat)) (f : Nat) (R : Nat → Nat) (B : Bgn) : Nat × Nat → Nat × Nat → Prop := Gen D (mvB T B) (DomB D T f B) (UnB D R (mvB T B) (DomB D T f B))
def NoClash (D : Nat) (T : List (List Nat)) (f : Nat) (R : Nat → Nat) (B : Bgn) : Prop := ∀ x y, GenB D T f R B x y → x.2 = y.2 → x.1 = y.1

section
variable {T : List (List Nat)} {f : Nat} {S : List Nat} {R : Nat → Nat} {B : Bgn} {W : List (List Nat)}
/-- known ends, mapped into a whole system -/
theorem kEnd_map {α β : Type} {D : Nat} {mv : Nat → α → Option α} {bct : Nat → β → β} {g : α → β} (hm : ∀ d x y, d < D → mv d x = some y → g y = bct d (g x)) : ∀ {row : List Nat} {p q : α}, Wd D row → kEnd mv row p = some q → g q = runA bct row (g p)
  | [], p, q, _, e => by cases e; rfl
  | d :: row, p, q, hr, e => by
    rw [kEnd_cons] at e
    cases h : mv d p with
    | none => rw [h] at e; cases e
    | some x =>
      rw [h] at e
      rw [kEnd_map hm hr.tail e, hm d p x hr.head h]; rfl
theorem count_two (a b d : Nat) : [a, b].count d = [b, a].count d := by
  simp [List.count_cons]; omega
/-- whatever a begun witness knows is so in each witness that goes on with it: if that tells, nothing clashes -/
theorem NoClash.of_tells (M : Mach T f S) {m : Nat} (hW : Wit T.length m W) (hm : 1 ≤ m) (hmn : m ≤ S.length) (ht : Tells T f R W) {π : Nat → Nat} (h0 : π 0 = 0) (told : ∀ d a b, d < T.length → bval B d a = some b → actT W d (π a) = π b) : NoClash T.length T f R B := by
  have P := M.perP hW hm hmn
  let g : Nat × Nat → Nat × Nat := fun p => (p.1, π p.2)
  have hm' : ∀ d x y, d < T.length → mvB T B d x = some y → g y = actP T W d (g x) := fun d x y hd e => by
    unfold mvB at e
    cases hb : bval B d x.2 with
    | none => rw [hb] at e; cases e
    | some b =>
      rw [hb] at e
      have ey : y = (actT T d x.1, b) := (Option.some.inj e).symm
      subst ey
      show (actT T d x.1, π b) = (actT T d x.1, actT W d (π x.2))
      rw [told d x.2 b hd hb]
  have hd : ∀ x, DomB T.length T f B x → RchA (actP T W) T.length (f, 0) (g x) := fun x ⟨w, hw, e⟩ => by
    refine ⟨w, hw, ?_⟩
    have := kEnd_map hm' hw e
    rw [this]
    show runA (actP T W) w (f, 0) = runA (actP T W) w (f, π 0)
    rw [h0]
  have hU : ∀ x y, UnB T.length R (mvB T B) (DomB T.length T f B) x y → EqvA (actP T W) T.length R (f, 0) (g x) (g y) := fun x y h => by
    rcases h with ⟨p, a, b, hp, hab, hb, e1, e2⟩ | ⟨p, d, hp, hdd, hr, rfl, e⟩
    · have ha : a < T.length := Nat.lt_trans hab hb
      have wab : Wd T.length [a, b] := Wd.cons ha (Wd.cons hb Wd.nil)
      have wba : Wd T.length [b, a] := Wd.cons hb (Wd.cons ha Wd.nil)
      rw [kEnd_map hm' wab e1, kEnd_map hm' wba e2]
      exact EqvA.of_cong (hd p hp) wab wba fun d _ => by rw [count_two]
    · rw [kEnd_map hm' (Wd.rep hdd) e]
      refine EqvA.of_cong (u := []) (hd x hp) Wd.nil (Wd.rep hdd) fun c _ => ?_
      rw [List.count_replicate]
      by_cases h : d = c
      · subst h; simp
      · simp [h]
  intro x y h e
  exact Tells.eqv (p := g x) (q := g y) ht (Gen.into P g hd hm' hU h) (show π x.2 = π y.2 by rw [e])
/-- a whole table of values -/
def vals (B : Bgn) : List (List Nat) := B.map fun r => r.map fun o => o.getD 0
theorem vals_get (B : Bgn) (d : Nat) : (vals B).getD d [] = (B.getD d []).map fun o => o.getD 0 := by
  unfold vals
  rw [List.getD_eq_getElem?_getD (l := List.map _ _), List.getD_eq_getElem?_getD, List.getElem?_map]
  cases B[d]? <;> rfl
theorem act_vals {B : Bgn} {d a b : Nat} (h : bval B d a = some b) : actT (vals B) d a = b := by
  unfold actT
  rw [vals_get]
  unfold bval at h
  rw [List.getD_eq_getElem?_getD] at h ⊢
  rw [List.getElem?_map]
  cases q : (B.getD d [])[a]? with
  | none => rw [q] at h; cases h
  | some o => rw [q] at h; simp only [Option.getD_some] at h; subst h; rfl
theorem kEnd_full {α : Type} {D : Nat} {mv : Nat → α → Option α} {dom : α → Prop} {act : Nat → α → α} (F : Full D mv dom act) : ∀ {row : List Nat} {p : α}, Wd D row → dom p → kEnd mv row p = some (runA act row p)
  | [], p, _, _ => rfl
  | d :: row, p, hr, hp => by
    rw [kEnd_cons, F.mv d p hr.head hp]
    exact kEnd_full F hr.tail (F.cl d p hr.head hp)
theorem Tells.of_full (full : ∀ p, DomB T.length T f B p → ∀ d, d < T.length → bval B d p.2 ≠ none) (nc : NoClash T.length T f R B) : Tells T f R (vals B) := by
  have F : Full T.length (mvB T B) (DomB T.length T f B) (actP T (vals B)) := by
    have mv : ∀ d x, d < T.length → DomB T.length T f B x → mvB T B d x = some (actP T (vals B) d x) := fun d x hd hx => by
      cases hb : bval B d x.2 with
      | none => exact absurd hb (full x hx d hd)
      | some b =>
        unfold mvB actP
        rw [hb, act_vals hb]; rfl
    exact ⟨mv, fun d x hd hx => hx.step hd (mv d x hd hx)⟩
  intro w w' hw hw' c e
  have g := Gen.cong (U := UnB T.length R (mvB T B) (DomB T.length T f B)) F (R := R) (fun p a b hp hab hb => by
      have ha : a < T.length := Nat.lt_trans hab hb
      exact .inl ⟨p, a, b, hp, hab, hb, kEnd_full F (Wd.cons ha (Wd.cons hb Wd.nil)) hp, kEnd_full F (Wd.cons hb (Wd.cons ha Wd.nil)) hp⟩)
    (fun d hd hr p hp => .inr ⟨p, d, hp, hd, hr, rfl, kEnd_full F (Wd.rep hd) hp⟩) hw hw' c DomB.start
  have := nc _ _ g (by rw [run_pair, run_pair]; exact e)
  rw [run_pair, run_pair] at this
  exact this
end

/-! ### the search -/
def setB (B : Bgn) (d a b : Nat) : Bgn := B.set d ((B.getD d []).set a (some b))
structure Bg (D size many : Nat) (B : Bgn) : Prop where
  len : B.length = D
  row : ∀ d, d < D → (B.getD d []).length = size
  lt : ∀ d a b, bval B d a = some b → b < many
  at' : ∀ d a b, bval B d a = some b → a < many
  inj : ∀ d a a' b, bval B d a = some b → bval B d a' = some b → a = a'
  pos : 1 ≤ many
  le : many ≤ size
theorem getD_set {α : Type} (l : List α) (i j : Nat) (x y : α) : (l.set i x).getD j y = if i = j ∧ i < l.length then x else l.getD j y := by
  rw [List.getD_eq_getElem?_getD, List.getD_eq_getElem?_getD, List.getElem?_set]
  by_cases h : i = j
  · subst h
    by_cases h2 : i < l.length
    · simp [h2]
    · simp [h2]
  · simp [h]
theorem setB_row {B : Bgn} {d a b d' : Nat} : (setB B d a b).getD d' [] = if d = d' ∧ d < B.length then (B.getD d []).set a (some b) else B.getD d' [] := getD_set _ _ _ _ _
theorem bval_set {B : Bgn} {d a b : Nat} (hd : d < B.length) (ha : a < (B.getD d []).length) (d' a' : Nat) : bval (setB B d a b) d' a' = if d = d' ∧ a = a' then some b else bval B d' a' := by
  unfold bval
  rw [setB_row]
  by_cases h : d = d'
  · subst h
    rw [if_pos ⟨rfl, hd⟩, getD_set]
    by_cases h2 : a = a'
    · subst h2; rw [if_pos ⟨rfl, ha⟩, if_pos ⟨rfl, rfl⟩]
    · rw [if_neg fun z => h2 z.1, if_neg fun z => h2 z.2]
  · rw [if_neg fun z => h z.1, if_neg fun z => h z.1]
theorem Bg.set {D size many : Nat} {B : Bgn} (h : Bg D size many B) {d a b : Nat} (hd : d < D) (ha : a < many) (hb : b ≤ many) (hbs : b < size) (hn : ∀ a', bval B d a' ≠ some b) : Bg D size (max many (b + 1)) (setB B d a b) := by
  have hd' : d < B.length := by rw [h.len]; exact hd
  have ha' : a < (B.getD d []).length := by rw [h.row d hd]; exact Nat.lt_of_lt_of_le ha h.le
  have ge := Nat.le_max_left many (b + 1)
  have ge2 := Nat.le_max_right many (b + 1)
  refine ⟨by unfold setB; rw [List.length_set]; exact h.len, fun d' hd2 => ?_, fun d' a' b' e => ?_, fun d' a' b' e => ?_, fun d' a1 a2 b' e1 e2 => ?_, Nat.le_trans h.pos ge, Nat.max_le.mpr ⟨h.le, hbs⟩⟩
  · rw [setB_row]
    by_cases q : d = d' ∧ d < B.length
    · rw [if_pos q, List.length_set]; exact h.row d hd
    · rw [if_neg q]; exact h.row d' hd2
  · rw [bval_set hd' ha'] at e
    split at e
    · cases e; omega
    · have := h.lt _ _ _ e; omega
  · rw [bval_set hd' ha'] at e
    split at e
    · rename_i q; rw [← q.2]; omega
    · have := h.at' _ _ _ e; omega
  · rw [bval_set hd' ha'] at e1 e2
    split at e1
    · rename_i q1
      split at e2
      · rename_i q2; rw [← q1.2, ← q2.2]
      · cases e1
        rw [← q1.1] at e2
        exact absurd e2 (hn a2)
    · split at e2
      · rename_i q2
        cases e2
        rw [← q2.1] at e1
        exact absurd e1 (hn a1)
      · exact h.inj _ _ _ _ e1 e2
/-- the standings of a whole witness that come -/
def IsZ (D : Nat) (W : List (List Nat)) (Z : List Nat) : Prop := Z.Nodup ∧ ∀ a, a ∈ Z ↔ RchA (actT W) D 0 a
structure Emb (D : Nat) (W : List (List Nat)) (Z : List Nat) (B : Bgn) (many : Nat) (π : Nat → Nat) : Prop where
  zero : π 0 = 0
  inj : ∀ a, a < many → ∀ b, b < many → π a = π b → a = b
  inZ : ∀ a, a < many → π a ∈ Z
  told : ∀ d a b, d < D → bval B d a = some b → actT W d (π a) = π b
theorem Emb.next {D size many m : Nat} {B : Bgn} {W : List (List Nat)} {Z : List Nat} {π : Nat → Nat} (G : Bg D size many B) (E : Emb D W Z B many π) (hW : Wit D m W) (hm : 1 ≤ m) (hZ : IsZ D W Z) (hs : Z.length = size) {d a : Nat} (hd : d < D) (ha : a < many) (hn : bval B d a = none) :
    ∃ b π', b ≤ many ∧ b < size ∧ (∀ a', bval B d a' ≠ some b) ∧ Emb D W Z (setB B d a b) (max many (b + 1)) π' := by
  have hd' : d < B.length := by rw [G.len]; exact hd
  have ha' : a < (B.getD d []).length := by rw [G.row d hd]; exact Nat.lt_of_lt_of_le ha G.le
  have hlt : ∀ x, x ∈ Z → x < m := fun x hx => hW.rch hm ((hZ.2 x).mp hx)
  have tz : actT W d (π a) ∈ Z := (hZ.2 _).mpr (((hZ.2 _).mp (E.inZ a ha)).step hd)
  by_cases h : ∃ b, b < many ∧ π b = actT W d (π a)
  · obtain ⟨b, hb, eb⟩ := h
    have hmax : max many (b + 1) = many := Nat.max_eq_left hb
    refine ⟨b, π, Nat.le_of_lt hb, Nat.lt_of_lt_of_le hb G.le, fun a' e => ?_, ?_⟩
    · have e1 := E.told d a' b hd e
      rw [eb] at e1
      have ha2 := G.at' _ _ _ e
      have e2 := hW.inj hd (hlt _ (E.inZ a' ha2)) (hlt _ (E.inZ a ha)) e1
      have e3 := E.inj a' ha2 a ha e2
      rw [e3, hn] at e; cases e
    · rw [hmax]
      refine ⟨E.zero, E.inj, E.inZ, fun d' a' b' hd2 e => ?_⟩
      rw [bval_set hd' ha'] at e
      split at e
      · rename_i q; cases e; rw [← q.1, ← q.2]; exact eb.symm
      · exact E.told _ _ _ hd2 e
  · have hnew : ∀ b, b < many → π b ≠ actT W d (π a) := fun b hb e => h ⟨b, hb, e⟩
    have hlen : many + 1 ≤ Z.length := by
      have nd : (actT W d (π a) :: (List.range many).map π).Nodup := by
        refine List.nodup_cons.mpr ⟨fun hx => ?_, nodup_map List.nodup_range fun x hx y hy e => E.inj x (List.mem_range.mp hx) y (List.mem_range.mp hy) e⟩
        obtain ⟨b, hb, e⟩ := List.mem_map.mp hx
        exact hnew b (List.mem_range.mp hb) e
      have := nodup_sub nd (m := Z) fun x hx => by
        obtain rfl | hx := List.mem_cons.mp hx
        · exact tz
        · obtain ⟨b, hb, rfl⟩ := List.mem_map.mp hx
          exact E.inZ b (List.mem_range.mp hb)
      simpa using this
    have hmax : max many (many + 1) = many + 1 := Nat.max_eq_right (Nat.le_succ _)
    let π' : Nat → Nat := fun x => if x = many then actT W d (π a) else π x
    have p1 : π' many = actT W d (π a) := if_pos rfl
    have p2 : ∀ x, x < many → π' x = π x := fun x hx => if_neg (Nat.ne_of_lt hx)
    refine ⟨many, π', Nat.le_refl _, by omega, fun a' e => ?_, ?_⟩
    · exact absurd (G.lt _ _ _ e) (Nat.lt_irrefl _)
    · rw [hmax]
      refine ⟨?_, fun x hx y hy e => ?_, fun x hx => ?_, fun d' a' b' hd2 e => ?_⟩
      · rw [p2 0 G.pos]; exact E.zero
      · rcases Nat.lt_succ_iff_lt_or_eq.mp hx with hx | rfl
        · rw [p2 x hx] at e
          rcases Nat.lt_succ_iff_lt_or_eq.mp hy with hy | rfl
          · rw [p2 y hy] at e; exact E.inj x hx y hy e
          · rw [p1] at e; exact absurd e (hnew x hx)
        · rcases Nat.lt_succ_iff_lt_or_eq.mp hy with hy | rfl
          · rw [p1, p2 y hy] at e; exact absurd e.symm (hnew y hy)
          · rfl
      · rcases Nat.lt_succ_iff_lt_or_eq.mp hx with hx | rfl
        · rw [p2 x hx]; exact E.inZ x hx
        · rw [p1]; exact tz
      · rw [bval_set hd' ha'] at e
        split at e
        · rename_i q; cases e; rw [← q.1, ← q.2, p1, p2 a ha]
        · rw [p2 a' (G.at' _ _ _ e), p2 b' (G.lt _ _ _ e)]
          exact E.told _ _ _ hd2 e
theorem Emb.whole {D size many : Nat} {B : Bgn} {W : List (List Nat)} {Z : List Nat} {π : Nat → Nat} (G : Bg D size many B) (E : Emb D W Z B many π) (hZ : IsZ D W Z) (hs : Z.length = size)
    (all : ∀ a, a < many → ∀ d, d < D → bval B d a ≠ none) : many = size := by
  have cov : ∀ (w : List Nat) (x : Nat), Wd D w → x < many → ∃ y, y < many ∧ runA (actT W) w (π x) = π y := by
    intro w
    induction w with
    | nil => intro x _ hx; exact ⟨x, hx, rfl⟩
    | cons d w ih =>
      intro x hw hx
      cases hb : bval B d x with
      | none => exact absurd hb (all x hx d hw.head)
      | some b =>
        obtain ⟨y, hy, e⟩ := ih b hw.tail (G.lt _ _ _ hb)
        exact ⟨y, hy, by rw [runA_cons, E.told d x b hw.head hb]; exact e⟩
  have := nodup_sub hZ.1 (m := (List.range many).map π) fun z hz => by
    obtain ⟨w, hw, e⟩ := (hZ.2 z).mp hz
    obtain ⟨y, hy, e2⟩ := cov w 0 hw G.pos
    rw [E.zero] at e2
    exact List.mem_map.mpr ⟨y, List.mem_range.mpr hy, by rw [← e2, e]⟩
  rw [List.length_map, List.length_range] at this
  exact Nat.le_antisymm G.le (by omega)
theorem dom_lt {D : Nat} {T : List (List Nat)} {f size many : Nat} {B : Bgn} (G : Bg D size many B) {p : Nat × Nat} (h : DomB D T f B p) : p.2 < many := by
  obtain ⟨w, hw, e⟩ := h
  have : ∀ (w : List Nat) (p q : Nat × Nat), p.2 < many → kEnd (mvB T B) w p = some q → q.2 < many := by
    intro w
    induction w with
    | nil => intro p q hp e; cases e; exact hp
    | cons d w ih =>
      intro p q hp e
      rw [kEnd_cons] at e
      cases h : mvB T B d p with
      | none => rw [h] at e; cases e
      | some r =>
        rw [h] at e
        refine ih r q ?_ e
        unfold mvB at h
        cases hb : bval B d p.2 with
        | none => simp [hb] at h
        | some b => rw [hb] at h; cases h; exact G.lt _ _ _ hb
  exact this w (f, 0) p G.pos e
/-- a whole witness: all steps of as many standings as there are told -/
theorem Bg.wit {D size : Nat} {B : Bgn} (G : Bg D size size B) (all : ∀ a, a < size → ∀ d, d < D → bval B d a ≠ none) : Wit D size (vals B) := fun d hd => by
  have hl : ((vals B).getD d []).length = size := by rw [vals_get, List.length_map]; exact G.row d hd
  have at1 : ∀ a, a < size → ∃ b, bval B d a = some b ∧ ((vals B).getD d []).getD a 0 = b := fun a ha => by
    cases hb : bval B d a with
    | none => exact absurd hb (all a ha d hd)
    | some b => exact ⟨b, rfl, act_vals hb⟩
  have ge : ∀ (a : Nat) (h : a < ((vals B).getD d []).length), ((vals B).getD d [])[a] = ((vals B).getD d []).getD a 0 := fun a h => (getD_at h).symm
  refine ⟨hl, ?_, fun x hx => ?_⟩
  · rw [List.nodup_iff_pairwise_ne, List.pairwise_iff_getElem]
    intro i j hi hj hij e
    rw [ge i hi, ge j hj] at e
    obtain ⟨b, e1, e2⟩ := at1 i (hl ▸ hi)
    obtain ⟨c, f1, f2⟩ := at1 j (hl ▸ hj)
    rw [e2, f2] at e
    subst e
    have := G.inj d i j b e1 f1
    omega
  · obtain ⟨i, hi, e⟩ := List.getElem_of_mem hx
    rw [ge i hi] at e
    obtain ⟨b, e1, e2⟩ := at1 i (hl ▸ hi)
    rw [← e, e2]
    exact G.lt _ _ _ e1
end OW

/-! ## OWR1 -/
/-! OWR1: enumerate over a tuple, zip over two or three lists and tuples in any mix. One bridge takes what the library tells of such an
iterator (WalksT: a new tuple at each turn) to a turn of the hand layer. -/
namespace PySem
open Sem (wp)
/-- the cell that enumerate(v) lays, its source's iterator at it -/
abbrev enumCell (it : Addr) : Obj := { cls := .type "enumerate", data := .fields #[.none, .bool false, .ref it, rawInt 0, .none, .none] }
/-- enumerate(v), v anything that an iterator begins over -/
theorem enum_laid {v : Value} {o : Obj} {G : Heap → Prop} (B : Begins v o G) :
    Meets (Builtin.«enumerate.__new__» ⟨[.type "enumerate", v], []⟩)
      fun _ R s => G s.heap ∧ R (.ok (.ret (.ref (s.heap.push o).objs.size))) { s with heap := (s.heap.push o).push (enumCell s.heap.objs.size) } := by
  refine Meets.of_wp ?_
  rintro prog w A R ⟨hp, gs, dr, tk, os⟩ ⟨hG, hR⟩
  have isA := sub_enumerate
  have begin_ : ∀ {A' : Around} {E' : Value → Shared → Prop} {Q' : Value → Shared → Prop}, Q' (.ref hp.objs.size) ⟨hp.push o, gs, dr, tk, os⟩ →
      wpAny (model prog w) A' (pyIter v) Q' E' ⟨hp, gs, dr, tk, os⟩ := fun q => B.iter prog w _ _ _ _ hG q
  wp_walk using begin_
  apply wpAny_stack_any
  intro frames
  apply wpAny_pure
  split
  next c _ _ _ _ _ =>
    rcases Bool.eq_false_or_eq_true (c == Value.type "enumerate") with e | e <;> rw [e] <;> wp_walk using begin_ <;> exact ⟨_, rfl, hR⟩
  next =>
    wp_walk using begin_
    exact ⟨_, rfl, hR⟩
theorem enum_new {prog : Program} {w : World} {A : Around} {E : Value → Shared → Prop} {s : Shared} {v : Value} {o : Obj} {G : Heap → Prop} {Q : Value → Shared → Prop} (B : Begins v o G) (hG : G s.heap)
    (then_ : ∀ h', IsEnum h' (s.heap.objs.size + 1) s.heap.objs.size 0 .none → h'.get? s.heap.objs.size = some o → (∀ b x, s.heap.get? b = some x → h'.get? b = some x) → Q (.ref (s.heap.objs.size + 1)) { s with heap := h' }) :
    wpAny (model prog w) A (call (.type "enumerate") [v]) Q E s := by
  have cell : IsEnum ((s.heap.push o).push (enumCell s.heap.objs.size)) (s.heap.push o).objs.size s.heap.objs.size 0 .none := Heap.get?_push_size _ rfl
  have src : ((s.heap.push o).push (enumCell s.heap.objs.size)).get? s.heap.objs.size = some o := Heap.get?_push_of_some _ (Heap.get?_push_size _ B.free)
  have old : ∀ b x, s.heap.get? b = some x → ((s.heap.push o).push (enumCell s.heap.objs.size)).get? b = some x := fun _ _ e => Heap.get?_push_of_some _ (Heap.get?_push_of_some _ e)
  have two : (s.heap.push o).objs.size = s.heap.objs.size + 1 := Heap.size_push ..
  rw [two] at cell
  apply callType_new F.called_enumerate (by decide) (F.typeCall_enumerate_1 v) (F.newCall_enumerate_1 v) (fun x => F.args_object_init_2 x v) F.entry_enumerate_new (enum_laid B)
  refine ⟨hG, ?_⟩
  rw [two]
  exact ⟨⟨_, cell, rfl⟩, then_ _ cell src old⟩
end PySem

namespace OWR
open PySem PySem.Spec L2 PyProof.Rows
/-! ### the bridge -/
/-- at b stands an object, no cell -/
def Stands (h : Heap) (b : Addr) : Prop := ∃ o, h.get? b = some o ∧ ∀ v, o.data ≠ .cell v
theorem Stands.of {h : Heap} {b : Addr} {o : Obj} (e : h.get? b = some o) (n : ∀ v, o.data ≠ .cell v) : Stands h b := ⟨o, e, n⟩
theorem Stands.lt {h : Heap} {b : Addr} (x : Stands h b) : b < h.objs.size := Exists.elim x fun _ e => Heap.lt_size e.1
theorem each_cons {p : Addr → Prop} {a : Addr} {l : List Addr} (h : p a) (t : ∀ b ∈ l, p b) : ∀ b ∈ a :: l, p b := List.forall_mem_cons.mpr ⟨h, t⟩
theorem each_nil {p : Addr → Prop} : ∀ b ∈ ([] : List Addr), p b := nofun
section
variable {X : Cx} {pins : List (Addr × Obj)} {σ : L2.St} {H : Hp} {s : Shared} {E : Value → Shared → Prop} {elts : List Expr} {kk : Nat} {tpos : Pos} {J : It} {own cells wr : List Addr} {z : Addr} {n i : Nat}
variable {P : Nat → Array Value → Prop} {St tn : Nat → Heap → Prop} {Mid : Nat → Addr → Heap → Prop}
/-- a turn: the new tuple is tracked from then on -/
theorem lays_item (W : WalksT X.prog X.w X.A z cells wr n P St Mid) (inOwn : ∀ b ∈ wr, b ∈ own) (I : Inv X pins σ H s) (mine : ∀ b ∈ own, FpOk X pins H b) (stand : ∀ b ∈ own, Stands s.heap b) (st : St i s.heap) (hi : i < n)
    {xs : List V} (small : xs.length ≤ sizeLine) (vals : ∀ us, P i us → Vals xs us.toList) (yields : ∀ T, H T = none → J.yld i H (.ref T) (upd H T (.tup xs))) (next : ∀ h, St (i + 1) h → tn (i + 1) h) :
    wpAny (model X.prog X.w) X.A (pyNext (.ref z)) (fun r s1 => ∃ u, r = some u ∧ wpAny (model X.prog X.w) X.A (letOwnedTupleGo (.Tuple elts kk tpos) (.ref z) u)
      (fun _ s2 => ∃ x H', Inv X pins σ H' s2 ∧ RelV x u ∧ J.yld i H x H' ∧ tn (i + 1) s2.heap ∧ ∀ b ∈ own, H' b = none) E s1) E s := by
  apply (GoesN.ofWalksT W).goes i s _ E hi st
  rintro _ h' tk ⟨T, us, rfl, young, hp, tup⟩ st' same -
  have tracked : Inv X pins σ (upd H T (.tup xs)) { s with heap := h', toks := tk } :=
    I.turnedNew (fun b o out e => same b o (fun m => out (inOwn b m)) e) mine young ⟨small, us.toList, vals us hp, tup⟩
  refine ⟨.ref T, upd H T (.tup xs), tracked, rfl, yields T (I.hok.fresh young), next h' st', fun b m => ?_⟩
  have apart : b ≠ T := Nat.ne_of_lt (Nat.lt_of_lt_of_le (stand b m).lt young)
  exact (upd_ne apart).trans (mine b m).1
/-- the end -/
theorem lays_end (W : WalksT X.prog X.w X.A z cells wr n P St Mid) (inOwn : ∀ b ∈ wr, b ∈ own) (I : Inv X pins σ H s) (mine : ∀ b ∈ own, FpOk X pins H b) (st : St i s.heap) (hi : i = n) :
    wpAny (model X.prog X.w) X.A (pyNext (.ref z)) (fun r s1 => r = none ∧ Inv X pins σ H s1) E s := by
  subst hi
  exact W.done s _ E st fun h' tk same => ⟨rfl, I.turnedL (ch := own) (fun b o out e => same b o (fun m => out (inOwn b m)) e) mine⟩
/-- where it begins: its own cells are new -/
theorem lays_begin {tg : Expr} {R : It → Hp → Prop} {h' : Heap} (I : Inv X pins σ H s) (old : ∀ b o, s.heap.get? b = some o → h'.get? b = some o) (T : Turn X.prog X.w X.K tg J own z tn) (st : tn 0 h') (young : ∀ b ∈ own, s.heap.objs.size ≤ b) (q : R J H) :
    PIE X pins σ tg R (.ref z) { s with heap := h' } :=
  ⟨z, own, tn, J, H, rfl, I.kept (t' := s.toks) old, T, st, fun b m => I.fpOk (young b m) (I.hok.fresh (young b m)), q⟩
/-- x(e, ..) where x is a built-in type and the call's value is walked -/
theorem pi_type {tg e : Expr} {es : List Expr} {x : Str} {T : String} {p pos : Pos} {ta : TA} {C : List V → Hp → (It → Hp → Prop) → Prop} (hg : Gl X x) (hm : X.mg x = none) (hb : bootBuiltins x = some (.type T)) (ha : PA X (e :: es) ta)
    (he : starEach (e :: es) X.env = (false, eval e X.env) :: starEach es X.env) (hpl : (backTo pos (starEach es X.env)).any (·.1) = false) (hn : x ≠ "__name__") (hd : (x == ("__debug__" : Str)) = false)
    (run : ∀ pins σ H s vs us R, Inv X pins σ H s → Vals vs us → C vs H R → wpAny (model X.prog X.w) X.A (call (.type T) us) (fun v s1 => wpAny (model X.prog X.w) X.A (pyIter v) (PIE X pins σ tg R) X.xe s1) X.xe s) :
    PI X tg (.Call (.Name x p) (e :: es) [] pos) fun σ H R => ta σ H fun vs H1 => C vs H1 R where
  run pins s σ H R I h := by
    have args := thn (ha.run pos pins s σ H _ I h) (Q' := fun us s1 => wpAny (model X.prog X.w) X.A (call (.type T) us) (fun v s2 => wpAny (model X.prog X.w) X.A (pyIter v) (PIE X pins σ tg R) X.xe s2) X.xe s1)
      fun us s1 a => by
        obtain ⟨vs, H1, J, r, c⟩ := a
        exact run pins σ H1 s1 vs us R J r c
    exact Call_ (ld_blt I hg hm hb (PyProof.Rows.callWith_type1 args he hpl) hn hd)
end

/-! ### enumerate of a tuple -/
/-- the tuple at a, each item in a new pair with its number -/
def IteT (K : PySem.W.Frag) (a : Addr) : It where
  go i H := ∃ xs x, SqT K H a xs ∧ xs[i]? = some x
  yld i H v H' := ∃ T x, v = .ref T ∧ H T = none ∧ H' = upd H T (.tup [.int (i : Nat), x]) ∧ ∀ xs, SqT K H a xs → xs[i]? = some x
  stop i H := ∃ xs : List V, SqT K H a xs ∧ xs.length = i
/-- a list or a tuple that is walked -/
inductive SK | l | t
def SK.sq : SK → PySem.W.Frag → Hp → Addr → List V → Prop
  | .l => SqL
  | .t => SqT
def SK.iter : SK → Heap → Addr → Addr → Nat → Prop
  | .l, h, it, a, i => h.IsListIter it a i
  | .t, h, it, a, i => h.IsTupleIter it a i
def SK.is : SK → Heap → Addr → Array Value → Prop
  | .l, h, a, xs => h.IsList a xs
  | .t, h, a, xs => h.IsTuple a xs
def SK.obj : SK → Addr → Obj
  | .l, a => { cls := .type "list_iterator", data := .fields #[.ref a, .int 0 0] }
  | .t, a => { cls := .type "tuple_iterator", data := .fields #[.ref a, .int 0 0] }
theorem SK.draws {prog : Program} {w : World} {A : Around} (k : SK) (hh : A.handled = none) {it a : Addr} (hne : a ≠ it) (its : Array Value) : Draws prog w A it [it, a] its.size (fun i v => its[i]? = some v) (fun i h => k.iter h it a i ∧ k.is h a its) := by
  cases k with
  | l => exact Draws.list hh it a hne its
  | t => exact Draws.tuple hh it a hne its
theorem SK.begins (k : SK) (a : Addr) (its : Array Value) : Begins (.ref a) (k.obj a) fun h => k.is h a its := by
  cases k with
  | l => exact begins_list a its
  | t => exact begins_tuple a its
section
variable {X : Cx} {pins : List (Addr × Obj)} {σ : L2.St} {H : Hp} {s : Shared} {a it : Addr} {xs ys : List V} {h h' : Heap} {i : Nat}
theorem SK.get (k : SK) (I : Inv X pins σ H s) (q : k.sq X.K H a xs) : ∃ its : List Value, Vals xs its ∧ k.is s.heap a its.toArray ∧ a < s.heap.objs.size := by
  cases k with
  | l => exact (I.list q).elim fun its z => ⟨its, z.1, z.2.1.isList, z.2.1.lt⟩
  | t => exact (I.tuple q).elim fun its z => ⟨its, z.1, z.2.1, Exists.elim z.2.1 fun _ e => Heap.lt_size e.1⟩
theorem SK.inj (k : SK) (I : Inv X pins σ H s) (q : k.sq X.K H a xs) (q' : k.sq X.K H a ys) : xs = ys := by
  cases k with
  | l => exact I.list_inj q q'
  | t => exact I.tuple_inj q q'
theorem SK.at_ (k : SK) (I : Inv X pins σ H s) {x : V} (q : k.sq X.K H a xs) (hx : xs[i]? = some x) : ∀ l, k.sq X.K H a l → l[i]? = some x := fun l q' => k.inj I q q' ▸ hx
theorem SK.iter_at (k : SK) (st : k.iter h it a i) (e : ∀ o, h.get? it = some o → h'.get? it = some o) : k.iter h' it a i := by
  cases k with
  | l => exact Heap.IsListIter.at st e
  | t => exact Heap.IsTupleIter.at st e
theorem SK.stands (k : SK) (st : k.iter h it a i) : Stands h it := by
  cases k <;> exact Exists.elim st fun o z => .of z.1 fun v q => Data.noConfusion (z.2.2.symm.trans q)
theorem SK.iter_new (k : SK) (e : h.get? it = some (k.obj a)) : k.iter h it a 0 := by
  cases k with
  | l => exact ⟨_, e, rfl, rfl⟩
  | t => exact ⟨_, e, rfl, rfl⟩
end
theorem at_arr {xs : List V} {its : List Value} (rv : Vals xs its) {i : Nat} {x : V} (hx : xs[i]? = some x) {u : Value} (hu : its.toArray[i]? = some u) : RelV x u :=
  Exists.elim (rv.get hx) fun u' z => Option.some.inj (z.1.symm.trans (by simpa using hu)) ▸ z.2
theorem lt_arr {xs : List V} {its : List Value} (rv : Vals xs its) {i : Nat} {x : V} (hx : xs[i]? = some x) : i < its.toArray.size := by
  obtain ⟨lt, -⟩ := List.getElem?_eq_some_iff.mp hx
  rw [List.size_toArray, ← rv.length]
  exact lt
/-- the two objects of an enumerate, at turn i -/
structure EnumAt (a e it : Addr) (i : Nat) (h : Heap) : Prop where
  cell : ∃ old, IsEnum h e it ((0 : Int) + (i : Nat)) old
  src : SK.t.iter h it a i
theorem turn_enumT {P : Program} {w : World} {K : PySem.W.Frag} {elts : List Expr} {kk : Nat} {tpos : Pos} {a e it : Addr} (ei : e ≠ it) (ai : a ≠ it) (ae : a ≠ e) : Turn P w K (.Tuple elts kk tpos) (IteT K a) [e, it] e (EnumAt a e it) := by
  have stand : ∀ i h, EnumAt a e it i h → ∀ b ∈ [e, it], Stands h b := fun i h st => each_cons (st.cell.elim fun _ z => .of z nofun) (each_cons (SK.t.stands st.src) each_nil)
  have nf : e ∉ [it, a] := fun m => (List.mem_cons.mp m).elim ei fun m => ae (List.mem_singleton.mp m).symm
  constructor
  · exact List.mem_cons_self
  · exact stand
  · exact fun i h h' st keep => ⟨st.cell.imp fun _ z => keep e List.mem_cons_self _ z, SK.t.iter_at st.src fun o z => keep it (by simp) o z⟩
  · rintro X rfl rfl rfl calm i pins s σ H E I mine st ⟨xs, x, q, hx⟩
    obtain ⟨its, rv, is, -⟩ := SK.t.get I q
    have W := WalksT.enumFrom (0 : Int) (SK.t.draws (prog := X.prog) (w := X.w) (A := X.A.in1) (I.ok.hd calm) ai its.toArray) e ei nf List.mem_cons_self
    refine lays_item W (fun _ m => m) I mine (stand i _ st) ⟨st.cell, st.src, is⟩ (lt_arr rv hx) (xs := [.int (i : Nat), x]) (by show 2 ≤ sizeLine; decide) ?_ (fun T hT => ⟨T, x, rfl, hT, rfl, SK.t.at_ I q hx⟩) fun h z => ⟨z.1, z.2.1⟩
    rintro _ ⟨t, u, hu, rfl⟩
    exact .cons ⟨t, by simp⟩ (.cons (at_arr rv hx hu) .nil)
  · rintro X rfl rfl rfl calm i pins s σ H E I mine st ⟨xs, q, hl⟩
    obtain ⟨its, rv, is, -⟩ := SK.t.get I q
    have W := WalksT.enumFrom (0 : Int) (SK.t.draws (prog := X.prog) (w := X.w) (A := X.A.in1) (I.ok.hd calm) ai its.toArray) e ei nf List.mem_cons_self
    exact lays_end W (fun _ m => m) I mine ⟨st.cell, st.src, is⟩ (by rw [← hl, List.size_toArray, rv.length])
  · exact fun A i s Q E st h => st.cell.elim fun _ z => wpAny_pyIter_enum z h
theorem walk_enumT {K : PySem.W.Frag} {a : Addr} {xs : List V} : Walk (IteT K a) xs.length (fun H => SqT K H a xs) (YPair (fun i => some (.int (i : Nat))) (fun i => xs[i]?)) where
  goes _ _ hi q := ⟨xs, _, q, List.getElem?_eq_getElem hi⟩
  stops _ q := ⟨xs, q, rfl⟩
  yields i H v H' _ q y := by
    obtain ⟨T, x, ev, hT, eH, all⟩ := y
    exact ⟨T, .int (i : Nat), x, ev, hT, eH, rfl, all xs q⟩
def iEnumT (K : PySem.W.Frag) (ta : TA) : TI := fun σ H R => ta σ H fun vs H1 => ∃ a xs, vs = [.ref a] ∧ SqT K H1 a xs ∧ R (IteT K a) H1
theorem pi_enumT {X : Cx} {e : Expr} {ta : TA} {p pos tpos : Pos} {elts : List Expr} {kk : Nat} (hg : Gl X "enumerate") (hm : X.mg "enumerate" = none) (ha : PA X [e] ta) (he : starEach [e] X.env = [(false, eval e X.env)] := by rfl) :
    PI X (.Tuple elts kk tpos) (.Call (.Name "enumerate" p) [e] [] pos) (iEnumT X.K ta) := by
  refine pi_type hg hm boot_enumerate ha he rfl (by decide) (by decide) ?_
  rintro pins σ H s _ us R I r ⟨a, xs, rfl, q, k⟩
  obtain rfl := Vals.ref1 r
  obtain ⟨its, rv, is, lt⟩ := SK.t.get I q
  have ai := Nat.ne_of_lt lt
  have ae := Nat.ne_of_lt (Nat.lt_succ_of_lt lt)
  refine enum_new (SK.t.begins a its.toArray) is fun h' cell src old => wpAny_pyIter_enum cell (lays_begin I old (turn_enumT (Nat.succ_ne_self _) ai ae) ⟨⟨_, cell⟩, SK.t.iter_new src⟩ ?_ k)
  exact each_cons (Nat.le_succ _) (each_cons (Nat.le_refl _) each_nil)

/-! ### zip -/
/-- two things walked at once -/
def Iz2 (k1 k2 : SK) (K : PySem.W.Frag) (a b : Addr) : It where
  go i H := ∃ (xs ys : List V) (x y : V), k1.sq K H a xs ∧ k2.sq K H b ys ∧ xs[i]? = some x ∧ ys[i]? = some y
  yld i H v H' := ∃ T x y, v = .ref T ∧ H T = none ∧ H' = upd H T (.tup [x, y]) ∧ (∀ xs, k1.sq K H a xs → xs[i]? = some x) ∧ ∀ ys, k2.sq K H b ys → ys[i]? = some y
  stop i H := ∃ xs ys : List V, k1.sq K H a xs ∧ k2.sq K H b ys ∧ xs.length = i ∧ ys.length = i
/-- three -/
def Iz3 (k1 k2 k3 : SK) (K : PySem.W.Frag) (a b c : Addr) : It where
  go i H := ∃ (xs ys zs : List V) (x y z : V), k1.sq K H a xs ∧ k2.sq K H b ys ∧ k3.sq K H c zs ∧ xs[i]? = some x ∧ ys[i]? = some y ∧ zs[i]? = some z
  yld i H v H' := ∃ T x y z, v = .ref T ∧ H T = none ∧ H' = upd H T (.tup [x, y, z]) ∧ (∀ xs, k1.sq K H a xs → xs[i]? = some x) ∧ (∀ ys, k2.sq K H b ys → ys[i]? = some y) ∧ ∀ zs, k3.sq K H c zs → zs[i]? = some z
  stop i H := ∃ xs ys zs : List V, k1.sq K H a xs ∧ k2.sq K H b ys ∧ k3.sq K H c zs ∧ xs.length = i ∧ ys.length = i ∧ zs.length = i
/-- the five objects of a zip of two, at turn i -/
structure Zip2At (k1 k2 : SK) (a b z TI TO i1 i2 : Addr) (i : Nat) (h : Heap) : Prop where
  zip : IsZip h z TI TO .none
  its : IsTupOf2 h TI (.ref i1) (.ref i2)
  out : ∃ u v, IsTupOf2 h TO u v
  fst : k1.iter h i1 a i
  snd : k2.iter h i2 b i
structure Apart2 (z TI TO i1 i2 a b : Addr) : Prop where
  s : ZipSep2 z TI TO i1 i2 [i1, a] [i2, b]
  a1 : a ≠ i1
  b2 : b ≠ i2
theorem turn_z2 {k1 k2 : SK} {P : Program} {w : World} {K : PySem.W.Frag} {elts : List Expr} {kk : Nat} {tpos : Pos} {a b z TI TO i1 i2 : Addr} (D : Apart2 z TI TO i1 i2 a b) :
    Turn P w K (.Tuple elts kk tpos) (Iz2 k1 k2 K a b) [z, TI, TO, i1, i2] z (Zip2At k1 k2 a b z TI TO i1 i2) := by
  have stand : ∀ i h, Zip2At k1 k2 a b z TI TO i1 i2 i h → ∀ c ∈ [z, TI, TO, i1, i2], Stands h c := fun i h st =>
    each_cons (.of st.zip nofun) <| each_cons (.of st.its nofun) <| each_cons (st.out.elim fun _ t => t.elim fun _ t => .of t nofun) <| each_cons (k1.stands st.fst) <| each_cons (k2.stands st.snd) each_nil
  have sub : ∀ c ∈ [z, TO, i1, i2], c ∈ [z, TI, TO, i1, i2] := by simp +contextual [or_imp]
  constructor
  · exact List.mem_cons_self
  · exact stand
  · exact fun i h h' st keep => ⟨keep z (by simp) _ st.zip, keep TI (by simp) _ st.its, st.out.imp fun _ t => t.imp fun _ t => keep TO (by simp) _ t, k1.iter_at st.fst (keep i1 (by simp)), k2.iter_at st.snd (keep i2 (by simp))⟩
  · rintro X rfl rfl rfl calm i pins s σ H E I mine st ⟨xs, ys, x, y, qx, qy, hx, hy⟩
    obtain ⟨us, rx, ux, -⟩ := k1.get I qx
    obtain ⟨vs, ry, uy, -⟩ := k2.get I qy
    have W := WalksT.zipD2 D.s (k1.draws (prog := X.prog) (w := X.w) (A := X.A.in1) (I.ok.hd calm) D.a1 us.toArray) (k2.draws (prog := X.prog) (w := X.w) (A := X.A.in1) (I.ok.hd calm) D.b2 vs.toArray)
    refine lays_item W sub I mine (stand i _ st) ⟨st.zip, st.its, st.out, ⟨st.fst, ux⟩, st.snd, uy⟩ (Nat.lt_min.mpr ⟨lt_arr rx hx, lt_arr ry hy⟩) (xs := [x, y]) (by show 2 ≤ sizeLine; decide) ?_
      (fun T hT => ⟨T, x, y, rfl, hT, rfl, k1.at_ I qx hx, k2.at_ I qy hy⟩) fun h z => ⟨z.1, z.2.1, z.2.2.1, z.2.2.2.1.1, z.2.2.2.2.1⟩
    rintro _ ⟨u, v, hu, hv, rfl⟩
    exact .cons (at_arr rx hx hu) (.cons (at_arr ry hy hv) .nil)
  · rintro X rfl rfl rfl calm i pins s σ H E I mine st ⟨xs, ys, qx, qy, ex, ey⟩
    obtain ⟨us, rx, ux, -⟩ := k1.get I qx
    obtain ⟨vs, ry, uy, -⟩ := k2.get I qy
    have W := WalksT.zipD2 D.s (k1.draws (prog := X.prog) (w := X.w) (A := X.A.in1) (I.ok.hd calm) D.a1 us.toArray) (k2.draws (prog := X.prog) (w := X.w) (A := X.A.in1) (I.ok.hd calm) D.b2 vs.toArray)
    refine lays_end W sub I mine ⟨st.zip, st.its, st.out, ⟨st.fst, ux⟩, st.snd, uy⟩ ?_
    simp only [List.size_toArray, ← rx.length, ← ry.length, ex, ey, Nat.min_self]
  · exact fun A i s Q E st h => wpAny_pyIter_zip st.zip h
def iZ2 (k1 k2 : SK) (K : PySem.W.Frag) (ta : TA) : TI := fun σ H R => ta σ H fun vs H1 => ∃ a b xs ys, vs = [.ref a, .ref b] ∧ k1.sq K H1 a xs ∧ k2.sq K H1 b ys ∧ R (Iz2 k1 k2 K a b) H1
theorem below1 {a n : Addr} (h : a < n) : ∀ c ∈ [a], c < n := each_cons h each_nil
theorem pi_z2 (k1 k2 : SK) {X : Cx} {e e2 : Expr} {ta : TA} {p pos tpos : Pos} {elts : List Expr} {kk : Nat} (hg : Gl X "zip") (hm : X.mg "zip" = none) (ha : PA X [e, e2] ta)
    (he : starEach [e, e2] X.env = (false, eval e X.env) :: starEach [e2] X.env := by rfl) (hpl : (backTo pos (starEach [e2] X.env)).any (·.1) = false := by rfl) :
    PI X (.Tuple elts kk tpos) (.Call (.Name "zip" p) [e, e2] [] pos) (iZ2 k1 k2 X.K ta) := by
  refine pi_type hg hm PyProof.Rows.boot_zip ha he hpl (by decide) (by decide) ?_
  rintro pins σ H s _ us R I r ⟨a, b, xs, ys, rfl, qx, qy, k⟩
  obtain _ | ⟨ra, _ | ⟨rb, _ | _⟩⟩ := r
  cases ra
  cases rb
  obtain ⟨us, rx, ux, la⟩ := k1.get I qx
  obtain ⟨vs, ry, uy, lb⟩ := k2.get I qy
  have D : Apart2 (s.heap.objs.size + 4) (s.heap.objs.size + 2) (s.heap.objs.size + 3) s.heap.objs.size (s.heap.objs.size + 1) a b := ⟨zip_sep2 (below1 la) (below1 lb), Nat.ne_of_lt la, Nat.ne_of_lt (Nat.lt_succ_of_lt lb)⟩
  refine zip_begins2 (k1.begins a us.toArray) (k2.begins b vs.toArray) ux uy fun h' hz hi ho h1 h2 _ old =>
    wpAny_pyIter_zip hz (lays_begin I old (turn_z2 (k1 := k1) (k2 := k2) D) ⟨hz, hi, ⟨_, _, ho⟩, k1.iter_new h1, k2.iter_new h2⟩ ?_ k)
  exact each_cons (Nat.le_add_right _ _) <| each_cons (Nat.le_add_right _ _) <| each_cons (Nat.le_add_right _ _) <| each_cons (Nat.le_refl _) <| each_cons (Nat.le_add_right _ _) each_nil
/-- the six objects of a zip of three, at turn i -/
structure Zip3At (k1 k2 k3 : SK) (a b d z TI TO i1 i2 i3 : Addr) (i : Nat) (h : Heap) : Prop where
  zip : IsZip h z TI TO .none
  its : IsTupOf3 h TI (.ref i1) (.ref i2) (.ref i3)
  out : ∃ u v w, IsTupOf3 h TO u v w
  fst : k1.iter h i1 a i
  snd : k2.iter h i2 b i
  thd : k3.iter h i3 d i
structure Apart3 (z TI TO i1 i2 i3 a b d : Addr) : Prop where
  s : ZipSep3 z TI TO i1 i2 i3 [i1, a] [i2, b] [i3, d]
  a1 : a ≠ i1
  b2 : b ≠ i2
  d3 : d ≠ i3
theorem turn_z3 {k1 k2 k3 : SK} {P : Program} {w : World} {K : PySem.W.Frag} {elts : List Expr} {kk : Nat} {tpos : Pos} {a b d z TI TO i1 i2 i3 : Addr} (D : Apart3 z TI TO i1 i2 i3 a b d) :
    Turn P w K (.Tuple elts kk tpos) (Iz3 k1 k2 k3 K a b d) [z, TI, TO, i1, i2, i3] z (Zip3At k1 k2 k3 a b d z TI TO i1 i2 i3) := by
  have stand : ∀ i h, Zip3At k1 k2 k3 a b d z TI TO i1 i2 i3 i h → ∀ c ∈ [z, TI, TO, i1, i2, i3], Stands h c := fun i h st =>
    each_cons (.of st.zip nofun) <| each_cons (.of st.its nofun) <| each_cons (st.out.elim fun _ t => t.elim fun _ t => t.elim fun _ t => .of t nofun) <| each_cons (k1.stands st.fst) <| each_cons (k2.stands st.snd) <| each_cons (k3.stands st.thd) each_nil
  have sub : ∀ c ∈ [z, TO, i1, i2, i3], c ∈ [z, TI, TO, i1, i2, i3] := by simp +contextual [or_imp]
  constructor
  · exact List.mem_cons_self
  · exact stand
  · exact fun i h h' st keep => ⟨keep z (by simp) _ st.zip, keep TI (by simp) _ st.its, st.out.imp fun _ t => t.imp fun _ t => t.imp fun _ t => keep TO (by simp) _ t, k1.iter_at st.fst (keep i1 (by simp)), k2.iter_at st.snd (keep i2 (by simp)), k3.iter_at st.thd (keep i3 (by simp))⟩
  · rintro X rfl rfl rfl calm i pins s σ H E I mine st ⟨xs, ys, zs, x, y, v, qx, qy, qz, hx, hy, hv⟩
    obtain ⟨us, rx, ux, -⟩ := k1.get I qx
    obtain ⟨vs, ry, uy, -⟩ := k2.get I qy
    obtain ⟨ws, rz, uz, -⟩ := k3.get I qz
    have W := WalksT.zipD3 D.s (k1.draws (prog := X.prog) (w := X.w) (A := X.A.in1) (I.ok.hd calm) D.a1 us.toArray) (k2.draws (prog := X.prog) (w := X.w) (A := X.A.in1) (I.ok.hd calm) D.b2 vs.toArray) (k3.draws (prog := X.prog) (w := X.w) (A := X.A.in1) (I.ok.hd calm) D.d3 ws.toArray)
    refine lays_item W sub I mine (stand i _ st) ⟨st.zip, st.its, st.out, ⟨st.fst, ux⟩, ⟨st.snd, uy⟩, st.thd, uz⟩ (Nat.lt_min.mpr ⟨Nat.lt_min.mpr ⟨lt_arr rx hx, lt_arr ry hy⟩, lt_arr rz hv⟩) (xs := [x, y, v]) (by show 3 ≤ sizeLine; decide) ?_
      (fun T hT => ⟨T, x, y, v, rfl, hT, rfl, k1.at_ I qx hx, k2.at_ I qy hy, k3.at_ I qz hv⟩) fun h z => ⟨z.1, z.2.1, z.2.2.1, z.2.2.2.1.1, z.2.2.2.2.1.1, z.2.2.2.2.2.1⟩
    rintro _ ⟨u1, u2, u3, g1, g2, g3, rfl⟩
    exact .cons (at_arr rx hx g1) (.cons (at_arr ry hy g2) (.cons (at_arr rz hv g3) .nil))
  · rintro X rfl rfl rfl calm i pins s σ H E I mine st ⟨xs, ys, zs, qx, qy, qz, ex, ey, ez⟩
    obtain ⟨us, rx, ux, -⟩ := k1.get I qx
    obtain ⟨vs, ry, uy, -⟩ := k2.get I qy
    obtain ⟨ws, rz, uz, -⟩ := k3.get I qz
    have W := WalksT.zipD3 D.s (k1.draws (prog := X.prog) (w := X.w) (A := X.A.in1) (I.ok.hd calm) D.a1 us.toArray) (k2.draws (prog := X.prog) (w := X.w) (A := X.A.in1) (I.ok.hd calm) D.b2 vs.toArray) (k3.draws (prog := X.prog) (w := X.w) (A := X.A.in1) (I.ok.hd calm) D.d3 ws.toArray)
    refine lays_end W sub I mine ⟨st.zip, st.its, st.out, ⟨st.fst, ux⟩, ⟨st.snd, uy⟩, st.thd, uz⟩ ?_
    simp only [List.size_toArray, ← rx.length, ← ry.length, ← rz.length, ex, ey, ez, Nat.min_self]
  · exact fun A i s Q E st h => wpAny_pyIter_zip st.zip h
def iZ3 (k1 k2 k3 : SK) (K : PySem.W.Frag) (ta : TA) : TI := fun σ H R => ta σ H fun vs H1 => ∃ a b d xs ys zs, vs = [.ref a, .ref b, .ref d] ∧ k1.sq K H1 a xs ∧ k2.sq K H1 b ys ∧ k3.sq K H1 d zs ∧ R (Iz3 k1 k2 k3 K a b d) H1
theorem pi_z3 (k1 k2 k3 : SK) {X : Cx} {e e2 e3 : Expr} {ta : TA} {p pos tpos : Pos} {elts : List Expr} {kk : Nat} (hg : Gl X "zip") (hm : X.mg "zip" = none) (ha : PA X [e, e2, e3] ta)
    (he : starEach [e, e2, e3] X.env = (false, eval e X.env) :: starEach [e2, e3] X.env := by rfl) (hpl : (backTo pos (starEach [e2, e3] X.env)).any (·.1) = false := by rfl) :
    PI X (.Tuple elts kk tpos) (.Call (.Name "zip" p) [e, e2, e3] [] pos) (iZ3 k1 k2 k3 X.K ta) := by
  refine pi_type hg hm PyProof.Rows.boot_zip ha he hpl (by decide) (by decide) ?_
  rintro pins σ H s _ us R I r ⟨a, b, d, xs, ys, zs, rfl, qx, qy, qz, k⟩
  obtain _ | ⟨ra, _ | ⟨rb, _ | ⟨rd, _ | _⟩⟩⟩ := r
  cases ra
  cases rb
  cases rd
  obtain ⟨us, rx, ux, la⟩ := k1.get I qx
  obtain ⟨vs, ry, uy, lb⟩ := k2.get I qy
  obtain ⟨ws, rz, uz, ld⟩ := k3.get I qz
  have D : Apart3 (s.heap.objs.size + 5) (s.heap.objs.size + 3) (s.heap.objs.size + 4) s.heap.objs.size (s.heap.objs.size + 1) (s.heap.objs.size + 2) a b d :=
    ⟨zip_sep3 (below1 la) (below1 lb) (below1 ld), Nat.ne_of_lt la, Nat.ne_of_lt (Nat.lt_succ_of_lt lb), Nat.ne_of_lt (Nat.lt_succ_of_lt (Nat.lt_succ_of_lt ld))⟩
  refine zip_begins3 (k1.begins a us.toArray) (k2.begins b vs.toArray) (k3.begins d ws.toArray) ux uy uz fun h' hz hi ho h1 h2 h3 _ old =>
    wpAny_pyIter_zip hz (lays_begin I old (turn_z3 (k1 := k1) (k2 := k2) (k3 := k3) D) ⟨hz, hi, ⟨_, _, _, ho⟩, k1.iter_new h1, k2.iter_new h2, k3.iter_new h3⟩ ?_ k)
  exact each_cons (Nat.le_add_right _ _) <| each_cons (Nat.le_add_right _ _) <| each_cons (Nat.le_add_right _ _) <| each_cons (Nat.le_refl _) <| each_cons (Nat.le_add_right _ _) <| each_cons (Nat.le_add_right _ _) each_nil
/-- a new triple -/
def YTri (xs ys zs : Nat → Option V) : Nat → Hp → V → Hp → Prop := fun i H v H' => ∃ T x y z, v = .ref T ∧ H T = none ∧ H' = upd H T (.tup [x, y, z]) ∧ xs i = some x ∧ ys i = some y ∧ zs i = some z
theorem walk_z3 {k1 k2 k3 : SK} {K : PySem.W.Frag} {a b d : Addr} {xs ys zs : List V} (hn : ys.length = xs.length) (hn2 : zs.length = xs.length) : Walk (Iz3 k1 k2 k3 K a b d) xs.length (fun H => k1.sq K H a xs ∧ k2.sq K H b ys ∧ k3.sq K H d zs) (YTri (fun i => xs[i]?) (fun i => ys[i]?) (fun i => zs[i]?)) where
  goes i _ hi q := ⟨xs, ys, zs, xs[i], ys[i]'(hn ▸ hi), zs[i]'(hn2 ▸ hi), q.1, q.2.1, q.2.2, List.getElem?_eq_getElem _, List.getElem?_eq_getElem _, List.getElem?_eq_getElem _⟩
  stops _ q := ⟨xs, ys, zs, q.1, q.2.1, q.2.2, rfl, hn, hn2⟩
  yields i H v H' _ q y := by
    obtain ⟨T, x, y, u, ev, hT, eH, g1, g2, g3⟩ := y
    exact ⟨T, x, y, u, ev, hT, eH, g1 xs q.1, g2 ys q.2.1, g3 zs q.2.2⟩
theorem walk_z2 {k1 k2 : SK} {K : PySem.W.Frag} {a b : Addr} {xs ys : List V} (hn : ys.length = xs.length) : Walk (Iz2 k1 k2 K a b) xs.length (fun H => k1.sq K H a xs ∧ k2.sq K H b ys) (YPair (fun i => xs[i]?) (fun i => ys[i]?)) where
  goes i _ hi q := ⟨xs, ys, xs[i], ys[i]'(hn ▸ hi), q.1, q.2, List.getElem?_eq_getElem _, List.getElem?_eq_getElem _⟩
  stops _ q := ⟨xs, ys, q.1, q.2, rfl, hn⟩
  yields i H v H' _ q y := by
    obtain ⟨T, x, y, ev, hT, eH, g1, g2⟩ := y
    exact ⟨T, x, y, ev, hT, eH, g1 xs q.1, g2 ys q.2⟩
end OWR

/-! ## OWR2 -/
/-! OWR2: a tuple times 1; what a write into a dict with tuples for keys leaves; setdefault of a dict of either kind. -/
namespace OWR
open PySem PySem.Spec L2 PyProof.Rows
/-- t * 1 is t -/
theorem tuple_once (l : Addr) (items : Array Value) (n : Nat) (dd : Option Addr) (sl : Array (Option Value)) (u : Tok) :
    Meets (Builtin.«tuple.__mul__» ⟨[.ref l, .int 1 u], []⟩) fun _ R s => s.heap.get? l = some ⟨.type "tuple", dd, .seq items n, sl⟩ ∧ R (.ok (.ret (.ref l))) s := by
  refine Meets.of_wp ?_
  rintro prog w A R ⟨hp, gs, dr, tk, os⟩ ⟨there, hR⟩
  have idx := AutoSeq1.idx_int
  have isT : (Shared.mk hp gs dr tk os).TypeIs (.ref l) "tuple" := ⟨_, there, rfl⟩
  wp_walk using wpAny_loadPart' there
  have same : (items.isEmpty || (1 : Int) == 1) = true := Bool.or_eq_true _ _ ▸ .inr rfl
  iterate 4 (try first
    | (apply wpAny_ite_false (by decide); wp_walk using wpAny_loadPart' there)
    | (apply wpAny_ite_true (decide_eq_true same); wp_walk using wpAny_loadPart' there))
  exact ⟨_, rfl, hR⟩
/-- t * k, k from 1 on -/
def rRepA : R2 := fun x y H Q => ∃ l k xs, x = .ref l ∧ y = .int k ∧ H l = some (.tup xs) ∧ xs ≠ [] ∧ 1 ≤ k ∧ k ≤ 1000 ∧ xs.length ≤ 1000 ∧ ∀ p H', Same H H' → H' p = some (.tup (List.replicate k.toNat xs).flatten) → Q (.ref p) H'
theorem op_repA {X : Cx} : OpR X (binaryOp .Mult) rRepA := by
  rintro pins s σ H _ _ v u Q I rx ry ⟨l, k, xs, rfl, rfl, tup, some_, from1, few, short, q⟩
  rcases Int.lt_or_eq_of_le from1 with two | rfl
  · have at2 : (2 : Int) ≤ k := two
    refine op_repT pins s σ H _ _ v u Q I rx ry ⟨l, k, xs, rfl, rfl, .inl (.inl tup), some_, at2, few, short, fun p new => q p _ ?_ upd_same⟩
    exact fun b o e => (upd_ne (ne_of_none e new)).trans e
  · have once : H l = some (.tup (List.replicate (1 : Int).toNat xs).flatten) := by
      show H l = some (.tup (xs ++ []))
      rw [List.append_nil, tup]
    cases rx
    obtain ⟨t, rfl⟩ := ry
    obtain ⟨its, -, ⟨⟨_, dd, _, sl⟩, ho, rfl, n, rfl⟩, -⟩ := I.tuple (.inl (.inl tup))
    have isT : ∀ s' : Shared, s'.heap = s.heap → s'.TypeIs (.ref l) "tuple" := fun s' e => ⟨_, e ▸ ho, rfl⟩
    apply wpAny_binaryOp_repeat_ref (T := "tuple") (U := "int") (by decide) (isT s rfl) (typeIs_int · 1 t) noFill_tuple_mul F.fills_int_mul F.slot_int_rmul repeat_tuple F.slot_int_index.lookup
    apply call_meets F.slot_int_rmul (typeIs_int s 1 t) F.entry_int_rmul (F.args_int_rmul_2 _ _) (int_rmul_tuple 1 t l its.toArray n dd sl)
    refine ⟨ho, rfl, isT s rfl, ?_⟩
    apply call_meets F.slot_tuple_mul (isT s rfl) F.entry_tuple_mul (F.args_tuple_mul_2 _ _) (tuple_once l its.toArray n dd sl t)
    exact ⟨ho, .ref l, H, I, rfl, q l H (Same.refl H) once⟩

/-! ### dicts with tuples for keys -/
theorem relO_some {o : Option V} {p : Addr × Value} {q : Option (Addr × Value)} (r : RelO o (q.map (·.2))) (e : q = some p) : ∃ v, o = some v ∧ RelV v p.2 := by
  subst e
  cases o with
  | none => exact False.elim r
  | some v => exact ⟨v, rfl, r⟩
theorem relO_none {o : Option V} {q : Option (Addr × Value)} (r : RelO o (q.map (·.2))) (e : q = none) : o = none := by
  subst e
  cases o with
  | none => rfl
  | some v => exact False.elim r
section
variable {X : Cx} {pins : List (Addr × Obj)} {σ : L2.St} {H : Hp} {s : Shared} {a b : Addr} {u r : Value} {y d : V} {A : Around} {E : Value → Shared → Prop}
theorem room_put {κ : Type} [DecidableEq κ] {kvs : List (κ × V)} (h : kvs.length < sizeLine) (k : κ) (v : V) : (putK kvs k v).length ≤ sizeLine := Nat.le_trans (length_putK kvs k v) h
/-- k set to d in the dict at a, seen from the object that then stands there -/
theorem dt_put {kvs : List (List Key × V)} {k : List Key} {xs : List (List Key × Addr × Value)} {h' : Heap} {t' : Nat} (I : Inv X pins σ H s) (e : H a = some (.dT kvs)) (eb : H b = some (.tup (k.map kV))) (small : kvs.length < sizeLine) (nm : (a == sysModules) = false)
    (rel : KT H kvs xs) (rd : RelV d r) (after : h'.DictOfH (tupleKind (mixKind X.prog X.w)) a (storedH xs k b r)) (same : Heap.SameBut a s.heap h') : Inv X pins σ (upd H a (.dT (putK kvs k d))) { s with heap := h', toks := t' } := by
  have tups : ∀ c ys, H c = some (.tup ys) → upd H a (.dT (putK kvs k d)) c = some (.tup ys) := fun c ys ec => (upd_ne (ne_of ec e nofun)).trans ec
  have ⟨ob, es, ep, got, ex, data, ents, _, keys⟩ := after
  have mut_ : Mut (H a) := e ▸ trivial
  exact d_write I mut_ same ⟨ob, got⟩ ⟨room_put small k d, nm, _, (rel.put k eb rd).keeps tups, ob, es, ep, got, ex, data, ents, keys⟩
/-- y as a key of the dict at a, of either kind: o is what stands there -/
abbrev KeyAt (H : Hp) (a : Addr) (y : V) (o : Option V) : Prop :=
  (∃ kvs k, H a = some (.dK kvs) ∧ y = kV k ∧ o = valV kvs k ∧ kvs.length < sizeLine) ∨ ∃ kvs k b, H a = some (.dT kvs) ∧ y = .ref b ∧ H b = some (.tup (k.map kV)) ∧ o = valV kvs k ∧ kvs.length < sizeLine
theorem d_setdA {o : Option V} {Q : Value → Shared → Prop} (hu : A.units + 1 < cLine) (I : Inv X pins σ H s) (g : KeyAt H a y o) (ry : RelV y u) (rd : RelV d r) (old : ∀ v, o = some v → ∀ w' s', Inv X pins σ H s' → RelV v w' → Q w' s')
    (new : o = none → ∀ H', DPut H a y d H' → ∀ w' s', Inv X pins σ H' s' → RelV d w' → Q w' s') : wpAny (model X.prog X.w) A (call (.builtin "dict.setdefault") [.ref a, u, r]) Q E s := by
  rcases g with ⟨kvs, k, e, rfl, rfl, small⟩ | ⟨kvs, k, b, e, rfl, eb, rfl, small⟩
  · exact d_setd I e ry rd small old fun hn => new hn _ (.k e small)
  · obtain rfl : u = .ref b := ry
    obtain ⟨z, nm, xs, rel, dd⟩ := dt_of I.hok e
    refine call_setdefault_heap (hsz := Paired.length rel ▸ z) (tupleKind_room_in1 hu) (key_of I.hok eb) nm dd (fun p hp => ?_) fun hn h' after same => ?_
    · obtain ⟨v, ev, rv⟩ := relO_some (rel.val k) hp
      exact old v ev _ _ (I.tok _) rv
    · exact new (relO_none (rel.val k) hn) _ (.t e eb small) _ _ (dt_put I e eb small nm rel rd after same) rd
/-- d.setdefault(y, z), of either kind of dict -/
def tDSetdA (td ty tx : TE) : TE := fun σ H Q => td σ H fun x H1 => ∃ a, x = .ref a ∧ IsD H1 a ∧ ty σ H1 fun y H2 => tx σ H2 fun z H3 => ∃ o, KeyAt H3 a y o ∧ (∀ v, o = some v → Q v H3) ∧ (o = none → ∀ H4, DPut H3 a y z H4 → Q z H4)
end
/-- o.setdefault(e, f) is done where o, e, f and the call are -/
theorem setdefault_parts {X : Cx} {o e f : Expr} {td ty tx t : TE} {apos cpos : Pos} (ho : PE X o td) (he : PE X e ty) (hf : PE X f tx) (m : M2 X o "setdefault" apos e f cpos) (D : Hp → Addr → Prop)
    (isD : ∀ {pins σ H s a}, Inv X pins σ H s → D H a → s.TypeIs (.ref a) "dict" ∧ ∃ ob, s.heap.get? a = some ob ∧ ob.dict = none) (G : Addr → V → V → Hp → VK → Prop)
    (split : ∀ {σ H Q}, t σ H Q → td σ H fun x H1 => ∃ a, x = .ref a ∧ D H1 a ∧ ty σ H1 fun y H2 => tx σ H2 fun z H3 => G a y z H3 Q)
    (run : ∀ {pins σ H s a y z u r Q}, Inv X pins σ H s → RelV y u → RelV z r → G a y z H Q → wpAny (model X.prog X.w) X.A (call (.builtin "dict.setdefault") [.ref a, u, r]) (EP X pins σ Q) X.xe s) :
    PE X (.Call (.Attribute o "setdefault" apos) [e, f] [] cpos) t where
  run pins s σ H Q I h := by
    refine wpAny_Call_method m.base m.few m.line F.plainAttrs_dict F.slot_dict_setdefault F.type_dict_setdefault (thn (ho.run pins s σ H _ I (split h)) ?_)
    rintro ov s1 ⟨_, H1, I1, rx, a, rfl, hD, q1⟩
    obtain rfl : ov = .ref a := rx
    obtain ⟨ty1, ob, hob, nd⟩ := isD I1 hD
    refine ⟨ty1, fun b e => by cases e; exact ⟨ob, hob, nd⟩, ?_⟩
    rw [m.trees]
    refine Calls.callWith_builtin rfl (Calls.evalArgs_plain (Calls.spliced_cons (thn (he.run pins s1 σ H1 _ I1 q1) ?_)))
    rintro u s2 ⟨y, H2, I2, ry, q2⟩
    refine Calls.spliced_cons (thn (hf.run pins s2 σ H2 _ I2 q2) ?_)
    rintro r s3 ⟨z, H3, I3, rz, q3⟩
    exact Calls.spliced_nil (run I3 ry rz q3)
theorem pe_dsetdA {X : Cx} {o e f : Expr} {td ty tx : TE} {apos cpos : Pos} (hu : X.A.units + 1 < cLine) (ho : PE X o td) (he : PE X e ty) (hf : PE X f tx) (m : M2 X o "setdefault" apos e f cpos) : PE X (.Call (.Attribute o "setdefault" apos) [e, f] [] cpos) (tDSetdA td ty tx) :=
  setdefault_parts ho he hf m IsD (fun I d => let ⟨t, k, _⟩ := isD_at I d; ⟨t, k _ rfl⟩) (fun a y z H3 Q => ∃ o, KeyAt H3 a y o ∧ (∀ v, o = some v → Q v H3) ∧ (o = none → ∀ H4, DPut H3 a y z H4 → Q z H4)) (fun h => h)
    fun I ry rz ⟨o, g, old, new⟩ => d_setdA hu I g ry rz (fun v hv _ _ J rv => ⟨v, _, J, rv, old v hv⟩) fun hn H4 hp _ _ J rv => ⟨_, _, J, rv, new hn H4 hp⟩
end OWR

/-! ## OWR3 -/
/-! OWR3: the values of a dict of either kind, walked: the library's Walks.rawValues as a turn of the hand layer. -/
namespace OWR
open PySem PySem.Spec L2 PyProof.Rows
/-- the values of a dict, in their order -/
def ValsOf (u : HO) (vals : List V) : Prop := (∃ kvs, u = .dK kvs ∧ vals = kvs.map (·.2)) ∨ ∃ kvs, u = .dT kvs ∧ vals = kvs.map (·.2)
theorem vals_pairs {P : Program} {w : World} {es : List DictEntry} {kvs : List (Key × V)} : ∀ {vs : List (Key × Value)}, KV kvs vs → PySem.Pairs (mixKind P w) es vs → Vals (kvs.map (·.2)) (es.map (·.val)) := by
  induction kvs generalizing es with
  | nil => rintro _ (_ | _) (_ | _); exact .nil
  | cons p ps ih =>
    rintro _ (_ | ⟨same, rest⟩) (_ | ⟨_, ev, tail⟩)
    refine .cons ?_ (ih rest tail)
    show RelV p.2 (DictEntry.val _)
    rw [ev]
    exact same.2
theorem vals_entries {H : Hp} {P : Program} {w : World} {kvs : List (List Key × V)} : ∀ {xs : List (List Key × Addr × Value)}, KT H kvs xs → Vals (kvs.map (·.2)) ((xs.map (entryOfKey (tupleKind (mixKind P w)))).map (·.val)) := by
  induction kvs with
  | nil => rintro _ (_ | _); exact .nil
  | cons p ps ih => rintro _ (_ | ⟨same, rest⟩); exact .cons same.2.2 (ih rest)
section
variable {X : Cx} {pins : List (Addr × Obj)} {σ : L2.St} {H : Hp} {s : Shared} {d : Addr} {o : Obj} {u : HO} {vals : List V}
/-- a locked dict: its entries hold those values -/
structure Locked (s : Shared) (d : Addr) (o : Obj) (vals : List V) (es : Array DictEntry) (ep : Nat) : Prop where
  mods : (d == sysModules) = false
  got : s.heap.get? d = some o
  exact_ : o.ExactDict
  data : o.data = .dict es ep
  vals : Vals vals (es.toList.map (·.val))
theorem Locked.raw {es : Array DictEntry} {ep : Nat} (L : Locked s d o vals es ep) : s.heap.DictRaw d es ep := ⟨o, L.got, L.exact_, L.data⟩
theorem Locked.size {es : Array DictEntry} {ep : Nat} (L : Locked s d o vals es ep) : es.size = vals.length := by
  rw [L.vals.length, List.length_map, Array.length_toList]
theorem locked (I : Inv X pins σ H s) (h : H d = some (.frz o u)) (hv : ValsOf u vals) : ∃ es ep, Locked s d o vals es ep := by
  obtain ⟨got, ok⟩ := I.hok d _ h
  obtain ⟨kvs, rfl, rfl⟩ | ⟨kvs, rfl, rfl⟩ := hv
  · obtain ⟨-, mods, vs, rel, ob, es, ep, got', ex, data, -, pairs, -⟩ := ok
    cases got.symm.trans got'
    exact ⟨es, ep, mods, got, ex, data, vals_pairs rel pairs⟩
  · obtain ⟨-, mods, xs, rel, ob, es, ep, got', ex, data, ents, -⟩ := ok
    cases got.symm.trans got'
    exact ⟨es, ep, mods, got, ex, data, by rw [ents]; exact vals_entries rel⟩
theorem Locked.same {es es' : Array DictEntry} {ep ep' : Nat} (L : Locked s d o vals es ep) (e : o.data = .dict es' ep') : es' = es ∧ ep' = ep := by
  have := e.symm.trans L.data
  cases this
  exact ⟨rfl, rfl⟩
end
/-- the dict at d, locked, by its values -/
def ItvA (d : Addr) (o : Obj) (u : HO) (vals : List V) : It where
  go i H := H d = some (.frz o u) ∧ i < vals.length
  yld i H x H' := H' = H ∧ vals[i]? = some x
  stop i H := H d = some (.frz o u) ∧ vals.length ≤ i
theorem turn_valsA {P : Program} {w : World} {K : PySem.W.Frag} {tg : Expr} {d it : Addr} {o : Obj} {u : HO} {vals : List V} {es : Array DictEntry} {ep : Nat} (hv : ValsOf u vals) (apart : d ≠ it) (hod : o.data = .dict es ep) :
    Turn P w K tg (ItvA d o u vals) [it] it fun i h => i ≤ vals.length ∧ h.IsValIter it d i es.size ep := by
  have stand : ∀ i h, (i ≤ vals.length ∧ h.IsValIter it d i es.size ep) → ∀ b ∈ [it], Stands h b := fun i h st => each_cons (Exists.elim st.2 fun ob z => .of z.1 fun v q => Data.noConfusion (z.2.2.symm.trans q)) each_nil
  constructor
  · exact List.mem_cons_self
  · exact stand
  · exact fun i h h' st keep => ⟨st.1, st.2.at (keep it List.mem_cons_self)⟩
  · rintro X rfl rfl rfl calm i pins s σ H E I mine ⟨-, st⟩ ⟨frz, hi⟩
    obtain ⟨es', ep', L⟩ := locked I frz hv
    obtain ⟨rfl, rfl⟩ := L.same hod
    have W := Walks.rawValues (prog := X.prog) (w := X.w) (A := X.A) (I.ok.hd calm) it d apart es ep
    refine W.item i s _ E (L.size ▸ hi) ⟨st, L.raw⟩ fun _ h' tk ⟨he, ev⟩ st' same => ⟨_, rfl, ?_⟩
    have I' : Inv X pins σ H { s with heap := h', toks := tk } := I.turnedL same mine
    obtain ⟨v, hv', rv⟩ := L.vals.get (List.getElem?_eq_getElem hi)
    have ev' : v = es[i].val := Option.some.inj (hv'.symm.trans (by simp [he]))
    obtain ⟨ob, got, cls, data⟩ := id st'.1
    exact go_of got cls data (by decide) ⟨vals[i], H, I', by rw [ev, ← ev']; exact rv, ⟨rfl, List.getElem?_eq_getElem hi⟩, ⟨hi, st'.1⟩, fun b m => (mine b m).1⟩
  · rintro X rfl rfl rfl calm i pins s σ H E I mine ⟨le, st⟩ ⟨frz, ge⟩
    obtain ⟨es', ep', L⟩ := locked I frz hv
    obtain ⟨rfl, rfl⟩ := L.same hod
    have W := Walks.rawValues (prog := X.prog) (w := X.w) (A := X.A) (I.ok.hd calm) it d apart es ep
    have last : i = es.size := (Nat.le_antisymm le ge).trans L.size.symm
    subst last
    exact W.done s _ E ⟨st, L.raw⟩ fun h' tk same => ⟨rfl, I.turnedL same mine⟩
  · exact fun A i s Q E st h => wpAny_pyIter_valiter st.2 h
def iValsA (td : TE) : TI := fun σ H R => td σ H fun x H1 => ∃ d o u vals, x = .ref d ∧ H1 d = some (.frz o u) ∧ ValsOf u vals ∧ R (ItvA d o u vals) H1
theorem pi_valuesA {X : Cx} {tg e : Expr} {td : TE} {apos cpos : Pos} (he : PE X e td) (hbase : attributeBase e "values" X.env (eval e X.env) = eval e X.env := by rfl) (hline : (apos.endLine == cpos.line) = true := by rfl) :
    PI X tg (.Call (.Attribute e "values" apos) [] [] cpos) (iValsA td) where
  run pins s σ H R I h := by
    refine wpAny_Call_method (T := "dict") (id := "dict.values") hbase rfl hline F.plainAttrs_dict F.slot_dict_values F.type_dict_values (thn (he.run pins s σ H _ I h) ?_)
    rintro ov s1 ⟨_, H1, J, rx, d, o, u, vals, rfl, frz, hv, q⟩
    obtain rfl : ov = .ref d := rx
    obtain ⟨es, ep, L⟩ := locked J frz hv
    have isD : s1.TypeIs (.ref d) "dict" := ⟨o, L.got, L.exact_.1⟩
    refine ⟨isD, fun b e => by cases e; exact ⟨o, L.got, L.exact_.2.1⟩, ?_⟩
    -- the view, then its iterator: two new objects
    have old : ∀ b x, s1.heap.get? b = some x → (s1.heap.push { cls := .type "dict_values", data := .fields #[.ref d] }).get? b = some x := fun _ _ e => Heap.get?_push_of_some _ e
    have young : s1.heap.objs.size ≤ (s1.heap.push { cls := .type "dict_values", data := .fields #[.ref d] }).objs.size := by rw [Heap.size_push]; exact Nat.le_succ _
    have apart : d ≠ (s1.heap.push { cls := .type "dict_values", data := .fields #[.ref d] }).objs.size := Nat.ne_of_lt (Nat.lt_of_lt_of_le (Heap.lt_size L.got) young)
    have walked : wpAny (model X.prog X.w) X.A (pyIter (.ref s1.heap.objs.size)) (PIE X pins σ tg R) X.xe { s1 with heap := s1.heap.push { cls := .type "dict_values", data := .fields #[.ref d] } } :=
      wpAny_pyIter_values_raw ⟨_, Heap.get?_push_size _ rfl, rfl, rfl⟩ (L.raw.at fun _ => old d _)
        (lays_begin (J.kept (t' := s1.toks) old) (fun _ _ e => Heap.get?_push_of_some _ e) (turn_valsA hv apart L.data) ⟨Nat.zero_le _, _, Heap.get?_push_size _ rfl, rfl, rfl⟩ (each_cons (Nat.le_refl _) each_nil) q)
    exact method_meetsIn F.slot_dict_values F.entry_dict_values rfl (PySem.evalArgs_none ⟨rfl, isD, F.args_dict_values_1 _, _, meets_dict_values_raw (prog := X.prog) (w := X.w) d L.mods, ⟨es, ep, L.raw⟩, walked⟩)
theorem walk_valsA {d : Addr} {o : Obj} {u : HO} {vals : List V} : Walk (ItvA d o u vals) vals.length (fun H => H d = some (.frz o u)) (YAt vals) where
  goes _ _ hi q := ⟨q, hi⟩
  stops _ q := ⟨q, Nat.le_refl _⟩
  yields _ _ _ _ _ _ y := y
end OWR

/-! ## OWR4 -/
/-! OWR4: a dict comprehension, its keys numbers and texts or tuples of them. First what any clause does between two heads of its loop (Head, Head.turn, Head.again),
then the loop with the dict's own store behind it, then the comprehension. -/
namespace OWR
open PySem PySem.Spec L2 PyProof.Rows
/-- d[k] = v as a comprehension or a display does it -/
theorem setA {X : Cx} {pins : List (Addr × Obj)} {σ : L2.St} {H H' : Hp} {s : Shared} {E : Value → Shared → Prop} {A : Around} {D : Addr} {y v : V} {u r : Value} {Q : Unit → Shared → Prop} (hu : A.units < cLine) (I : Inv X pins σ H s) (g : DPut H D y v H')
    (ry : RelV y u) (rv : RelV v r) (then_ : ∀ s', Inv X pins σ H' s' → Q () s') : wpAny (model X.prog X.w) A (dictSet D u r) Q E s := by
  obtain ⟨kvs, k, e, rfl, small, rfl⟩ | ⟨kvs, k, b, e, rfl, eb, small, rfl⟩ := g
  · obtain ⟨z, nm, vs, rel, dd⟩ := dk_of I.hok e
    have few : vs.length ≤ sizeLine := Paired.length rel ▸ z
    have mut_ : Mut (H D) := e ▸ trivial
    refine wpAny_dictSet_pairs (hsz := few) (kV_is ry) dd fun h' after same => then_ _ (d_write I mut_ same ?_ (dk_new (room_put small k v) nm (rel.put k rv) after))
    obtain ⟨ob, -, -, got, -⟩ := after
    exact ⟨ob, got⟩
  · obtain rfl : u = .ref b := ry
    obtain ⟨z, nm, xs, rel, dd⟩ := dt_of I.hok e
    have few : xs.length ≤ sizeLine := Paired.length rel ▸ z
    exact wpAny_dictSet_heap (hsz := few) (knd := tupleKind (mixKind X.prog X.w)) hu (key_of I.hok eb) dd fun h' after same => then_ _ (dt_put I e eb small nm rel rv after same)
/-- an empty dict, of the kind that is wanted -/
inductive E0 : HO → Prop
  | k : E0 (.dK [])
  | t : E0 (.dT [])
theorem E0.ok {P : Program} {w : World} {H : Hp} {o : HO} (e : E0 o) (h : Heap) (hb : sysModules < h.objs.size) : ObjOk P w H (h.push { cls := .type "dict", data := .dict #[] }) h.objs.size o := by
  cases e with
  | k => exact dk_empty h hb
  | t => exact dt_empty h hb

/-! ### a clause, from head to head -/
/-- B stands at the head of turn i: the block's own names forgotten, the iterator's objects its own -/
structure Head (B : Cx) (tn : Nat → Heap → Prop) (σ : L2.St) (i : Nat) (H : Hp) (s : Shared) : Prop where
  inv : Inv B [] σ H s
  here : tn i s.heap
  hidden : ∀ b ∈ B.ex, H b = none
section
variable {B : Cx} {tg : Expr} {ifs : List Expr} {J : It} {it : Addr} {tn : Nat → Heap → Prop} {σ0 : L2.St} {i : Nat} {H : Hp} {s : Shared} {g : TG} {tt : TT} {vs : List Nat}
theorem own_ok (pn : B.pn = []) {σ : L2.St} (I : Inv B [] σ H s) (hidden : ∀ b ∈ B.ex, H b = none) : ∀ b ∈ B.ex, FpOk B [] H b := fun b m =>
  have ⟨notFrame, notCell⟩ := I.ok.exf b m
  ⟨hidden b m, notFrame, I.ok.exfs b m, .inl m, notCell, fun p hp => by rw [pn] at hp; simp at hp⟩
/-- behind the tests of turn i: the iterator's objects, as s1 has them, are pinned -/
structure Tested (B : Cx) (tn : Nat → Heap → Prop) (σ0 : L2.St) (vs : List Nat) (i : Nat) (s1 : Shared) (σ : L2.St) (H : Hp) (s : Shared) : Prop where
  inv : Inv B (pinsAt B.ex s1.heap) σ H s
  here : tn i s1.heap
  names : wipe σ vs = σ0
theorem Tested.again (T : Turn B.prog B.w B.K tg J B.ex it tn) {s1 : Shared} {σ : L2.St} (t : Tested B tn σ0 vs i s1 σ H s) : Head B tn σ0 i H s := by
  have pinned : ∀ b ∈ B.ex, ∀ o, s1.heap.get? b = some o → s.heap.get? b = some o ∧ H b = none := fun b m o e =>
    have z := t.inv.pin (b, o) (List.mem_append_right _ (mem_pinsAt m e))
    ⟨z.1, z.2.1⟩
  refine ⟨?_, T.keep i _ _ t.here fun b m o e => (pinned b m o e).1, fun b m => ?_⟩
  · have plain : Inv B [] σ H s := Inv.unpinned (pins := []) (pl := pinsAt B.ex s1.heap) t.inv
    have names := t.names
    subst names
    exact plain.weak (wipe_length σ vs) fun j v e => (wipe_some e).1
  · obtain ⟨o, e, -⟩ := T.obj i _ t.here b m
    exact (pinned b m o e).2
/-- one turn to its tests: K is what they promise -/
theorem Head.turn (S : Head B tn σ0 i H s) (T : Turn B.prog B.w B.K tg J B.ex it tn) (pn : B.pn = []) (never : ∀ e z, ¬ B.xe e z) (calm : B.calm = true) (go : J.go i H) (pg : PG B tg g) (pt : PTs B ifs tt) {K : L2.St → Bool → Hp → Prop}
    (step : ∀ x H', J.yld i H x H' → g x σ0 H' fun σ2 H2 => wipe σ2 vs = σ0 ∧ tt σ2 H2 (K σ2)) {E : Value → Shared → Prop} {R : Bool → Shared → Prop}
    (body : ∀ ok σ2 H2 s1 s2, Tested B tn σ0 vs (i + 1) s1 σ2 H2 s2 → K σ2 ok H2 → R ok s2) :
    wpAny (model B.prog B.w) B.A (pyNext (.ref it)) (fun r s1 => ∃ u, r = some u ∧ wpAny (model B.prog B.w) B.A (letOwnedTupleGo tg (.ref it) u) (fun _ s2 => wpAny (model B.prog B.w) B.A (assign tg B.env u) (fun _ s3 =>
      wpAny (model B.prog B.w) B.A (forIn ifs true fun c r => if r = true then do let ok ← isTrue c B.env (eval c B.env); pure (ForInStep.yield ok) else pure (ForInStep.yield r)) R E s3) E s2) E s1) E s := by
  have lift : ∀ {α : Type} {t : Sem α} {P P' : α → Shared → Prop} {z : Shared}, wpAny (model B.prog B.w) B.A t P B.xe z → (∀ a z, P a z → P' a z) → wpAny (model B.prog B.w) B.A t P' E z := fun h k => wpAny_mono h k fun e z x => (never e z x).elim
  refine thnF (T.item B rfl rfl rfl calm i [] s σ0 H (fun _ _ => False) S.inv (own_ok pn S.inv S.hidden) S.here go) ?_
  rintro _ s1 ⟨u, rfl, got⟩
  refine ⟨u, rfl, thnF got ?_⟩
  rintro _ s2 ⟨x, H2, I2, rx, yx, here, hidden⟩
  have P2 : Inv B (pinsAt B.ex s2.heap) σ0 H2 s2 := I2.pinned (own_ok pn I2 hidden) (T.obj _ _ here)
  refine lift (pg.run _ s2 σ0 H2 x u _ P2 rx (step x H2 yx)) ?_
  rintro _ s3 ⟨σ3, H3, I3, names, q3⟩
  refine lift (pt.run _ s3 σ3 H3 _ I3 q3) ?_
  rintro ok s4 ⟨H4, I4, q4⟩
  exact body ok σ3 H4 s2 s4 ⟨I4, here, names⟩ q4

/-! ### the loop of a dict comprehension -/
variable {kx vx iter : Expr} {scope : Scope} {pos : Pos} {tk tv : TE} {D : Addr} {Qd : Hp → Prop} {W : Nat → Nat → Hp → Prop}
/-- what a turn owes, from the target on -/
abbrev DcTurn (g : TG) (tt : TT) (tk tv : TE) (vs : List Nat) (σ : L2.St) (D : Addr) (x : V) (H : Hp) (next : Hp → Prop) : Prop :=
  g x (wipe σ vs) H fun σ2 H2 => wipe σ2 vs = wipe σ vs ∧ tt σ2 H2 fun b H3 => if b = true then tk σ2 H3 fun y H4 => tv σ2 H4 fun z H5 => ∃ H6, DPut H5 D y z H6 ∧ next H6 else next H3
/-- all turns: W i m H at the head of turn i, m the measure -/
abbrev DcTurns (J : It) (g : TG) (tt : TT) (tk tv : TE) (vs : List Nat) (σ : L2.St) (D : Addr) (Qd : Hp → Prop) (W : Nat → Nat → Hp → Prop) : Prop :=
  ∀ i m H, W i m H → (J.stop i H ∧ Qd H) ∨ (J.go i H ∧ ∃ next : Hp → Prop, (∀ H', next H' → ∃ m', m' < m ∧ W (i + 1) m' H') ∧ ∀ x H', J.yld i H x H' → DcTurn g tt tk tv vs σ D x H' next)
theorem dc_loop {σ : L2.St} (T : Turn B.prog B.w B.K tg J B.ex it tn) (pn : B.pn = []) (never : ∀ e z, ¬ B.xe e z) (calm : B.calm = true) (hu : B.A.units < cLine) (pg : PG B tg g) (pt : PTs B ifs tt) (pk : PE B kx tk) (pv : PE B vx tv)
    (turns : DcTurns J g tt tk tv vs σ D Qd W) {R : Result → Shared → Prop} (fin : ∀ H' s', Inv B [] (wipe σ vs) H' s' → Qd H' → R (.ok .next) s') {m : Nat} (S : Head B tn (wipe σ vs) i H s) (w0 : W i m H) :
    codeAny (model B.prog B.w) B.A (.compLoop (.DictComp kx vx [⟨tg, iter, ifs, 0⟩] scope pos) 0 (.ref it) (.ref D) B.env) R s := by
  have lift : ∀ {α : Type} {t : Sem α} {P P' : α → Shared → Prop} {z : Shared} {E : Value → Shared → Prop}, wpAny (model B.prog B.w) B.A t P B.xe z → (∀ a z, P a z → P' a z) → wpAny (model B.prog B.w) B.A t P' E z := fun h k => wpAny_mono h k fun e z x => (never e z x).elim
  refine compLoop_anyD (fun m s' => ∃ i H', Head B tn (wipe σ vs) i H' s' ∧ W i m H') ?_ m ⟨i, H, S, w0⟩
  rintro m s ⟨i, H, S, w⟩
  rcases turns i m H w with ⟨stop, q⟩ | ⟨go, next, less, step⟩
  · refine thnF (T.done B rfl rfl rfl calm i [] s _ H (fun _ _ => False) S.inv (own_ok pn S.inv S.hidden) S.here stop) ?_
    rintro _ s' ⟨rfl, I'⟩
    exact fin H s' I' q
  · have back : ∀ {σ2 : L2.St} {H2 : Hp} {s1 s2 : Shared}, Tested B tn (wipe σ vs) vs (i + 1) s1 σ2 H2 s2 → next H2 → ∃ m', m' < m ∧ ∃ j H', Head B tn (wipe σ vs) j H' s2 ∧ W j m' H' := fun t n =>
      have ⟨m', lt, w'⟩ := less _ n
      ⟨m', lt, i + 1, _, t.again T, w'⟩
    refine wpAny_mono (S.turn T pn never calm go pg pt step (E := notedBy (model B.prog B.w) B.A B.env fun e z => R (.error e) z)
      (R := fun ok z => if ok = true then wpAny (model B.prog B.w) B.A (eval kx B.env) (fun k z => wpAny (model B.prog B.w) B.A (eval vx B.env) (fun v z => wpAny (model B.prog B.w) B.A (dictSet D k v)
        (fun _ z => ∃ m', m' < m ∧ ∃ j H', Head B tn (wipe σ vs) j H' z ∧ W j m' H') (notedBy (model B.prog B.w) B.A B.env fun e z => R (.error e) z) z) (notedBy (model B.prog B.w) B.A B.env fun e z => R (.error e) z) z) (notedBy (model B.prog B.w) B.A B.env fun e z => R (.error e) z) z
        else ∃ m', m' < m ∧ ∃ j H', Head B tn (wipe σ vs) j H' z ∧ W j m' H') ?_) ?_ fun _ _ x => x
    · intro ok σ2 H2 s1 s2 t q
      cases ok with
      | false => exact back t q
      | true =>
        refine lift (pk.run _ s2 σ2 H2 _ t.inv q) ?_
        rintro k s3 ⟨y, H3, I3, ry, q3⟩
        refine lift (pv.run _ s3 σ2 H3 _ I3 q3) ?_
        rintro v s4 ⟨x, H4, I4, rx, H5, put, n⟩
        exact setA hu I4 put ry rx fun s5 I5 => back ⟨I5, t.here, t.names⟩ n
    · rintro _ z ⟨u, rfl, h⟩
      exact h
end

/-! ### the comprehension -/
section
variable {X : Cx}
/-- in the block that a comprehension opens, whatever state it opens in -/
abbrev InBlk (X : Cx) (scope : Scope) (p : Cx → Prop) : Prop := ∀ (s : Shared) (H : Hp) (C : Addr) (cl : List (Str × Addr)) (fp : List Addr), p (X.blk s H scope (compEnvC scope cl C X.env) fp)
/-- the environment of a block opened over the heap h -/
abbrev blockEnv (X : Cx) (scope : Scope) (h : Heap) : Env := compEnvC scope (cellsFrom (h.objs.size + 1) scope.names (cloFrom X.env.cells scope.names [])) h.objs.size X.env
/-- {k: v for target in iter if ..}: o0 the empty dict that it begins as -/
def tDcA (o0 : HO) (wi : TI) (g : TG) (tt : TT) (tk tv : TE) (vs : List Nat) : TE := fun σ H Q => wi σ H fun J H1 => ∀ D, H1 D = none → ∃ W : Nat → Nat → Hp → Prop, (∃ m, W 0 m (upd H1 D o0)) ∧ DcTurns J g tt tk tv vs σ D (fun H => Q (.ref D) H) W
theorem pe_dcA (o0 : HO) (h0 : E0 o0) (hu : X.A.units < cLine) {kx vx tg iter : Expr} {ifs : List Expr} {scope : Scope} {own : List (Str × Nat)} {pos : Pos} {wi : TI} {g : TG} {tt : TT} {tk tv : TE} (calm : X.calm = true) (hN : X.N.Nodup) (hi : PI X tg iter wi) (ok : BlkOk X.N X.env.scope scope own)
    (hg : InBlk X scope fun B => PG B tg g) (ht : InBlk X scope fun B => PTs B ifs tt) (hk : InBlk X scope fun B => PE B kx tk) (hv : InBlk X scope fun B => PE B vx tv) (hs : ∀ x, foldedSetIterable iter X.env x = pure x := by intro _; rfl) :
    PE X (.DictComp kx vx [⟨tg, iter, ifs, 0⟩] scope pos) (tDcA o0 wi g tt tk tv (own.map (·.2))) where
  run pins s σ H Q I h := by
    have free : ∀ y ∈ scope.names, y.2 = .free → ∃ c, X.env.cells.lookup y.1 = some c := fun y m e => (ok.free y m e).elim (fun z => I.ok.has _ (.inl z)) fun z => I.ok.has _ (.inr z)
    rw [arm_eval_DictComp]
    refine wpAny_comprehension_free (use := none) rfl hs (closure_ok free) ok.kind (fun y m e => e ▸ ok.uniq y m) (thn (hi.run pins s σ H _ I h) fun xv s1 h1 => thn h1 ?_)
    rintro _ s2 ⟨it, fp, tn, J, H2, rfl, I2, T, st2, mine, q⟩
    refine wpAny_newObj_type ?_
    refine newEnv_comp ?_
    have young := I2.hok.fresh (Nat.le_refl s2.heap.objs.size)
    obtain ⟨W, ⟨m, w0⟩, turns⟩ := q s2.heap.objs.size young
    have below : ∀ b ∈ fp, b < s2.heap.objs.size := fun b m => (T.obj 0 _ st2 b m).elim fun _ e => Heap.lt_size e.1
    generalize eh : s2.heap.push { cls := .type "dict", data := .dict #[] } = h3
    generalize eH : upd H2 s2.heap.objs.size o0 = H3 at w0
    have old : ∀ b o, s2.heap.get? b = some o → h3.get? b = some o := fun b o e => eh ▸ Heap.get?_push_of_some _ e
    have grown : h3.objs.size = s2.heap.objs.size + 1 := by rw [← eh, Heap.size_push]
    have laid : Inv X pins σ H3 { s2 with heap := h3 } := by
      rw [← eH]
      exact I2.laid (t' := s2.toks) old (Nat.le_refl _) (eh ▸ h0.ok s2.heap I2.big)
    have hidden : ∀ b ∈ fp, H3 b = none := fun b m => by rw [← eH, upd_ne (Nat.ne_of_lt (below b m)), (mine b m).1]
    have st3 : tn 0 h3 := T.keep 0 _ _ st2 fun b _ o e => old b o e
    have start := block_start (fp := fp) laid ok hN fun b m => ⟨⟨hidden b m, (mine b m).2⟩, by show b < h3.objs.size; rw [grown]; exact Nat.lt_succ_of_lt (below b m)⟩
    have st4 := T.keep 0 _ _ st3 fun b _ o e => pushCells_keeps scope.names _ b o (Heap.get?_push_of_some { cls := .type "dict", data := .dict #[] } e)
    have loop := dc_loop (B := X.blk { s2 with heap := h3 } H3 scope (blockEnv X scope h3) fp) (iter := iter) (scope := scope) (pos := pos) (it := it) (kx := kx) (vx := vx) (ifs := ifs)
      (R := compPost (model X.prog X.w) X.A X.xe none (EP X pins σ Q) (.ref s2.heap.objs.size) h3.objs.size) T rfl (fun _ _ => id) calm hu (hg _ _ _ _ fp) (ht _ _ _ _ fp) (hk _ _ _ _ fp) (hv _ _ _ _ fp) turns (fun H' s' I' q' => ?_) ⟨start, st4, hidden⟩ w0
    · exact codeAny_compStart_dict loop (T.self X.A 0 _ _ _ st4 loop)
    · obtain ⟨names, hn, -⟩ := I'.loc
      have back : Inv X pins σ H' s' := laid.call' (ch := fp) I'.os I'.base I'.hok I'.bare fun b m => have z := (mine b m).2; ⟨z.2.2.1, z.1, z.2.2.2.1, z.2.2.2.2⟩
      obtain ⟨f0, f1, f2, f3, f4, f5⟩ := laid.fpOk (Nat.le_refl _) I'.free
      exact ⟨names, hn, fun h'' same => ⟨.ref _, H', back.turned (t' := s'.toks) (fun b o ne e => (same.2 b ne).trans e) f0 f1 f3 f4 f5, rfl, q'⟩⟩
/-- over anything that is walked, by an invariant Pv of the turn and the heap: T is what one turn owes, the rest of the walk as its last argument -/
theorem measured {J : It} {n : Nat} {G : Hp → Prop} {Y : Nat → Hp → V → Hp → Prop} {Hs : Hp} {Qd : Hp → Prop} (w : Walk J n G Y) (T : V → Hp → (Hp → Prop) → Prop) (Pv : Nat → Hp → Prop) (h0 : Pv 0 Hs) (hG : ∀ i H, i ≤ n → Pv i H → G H)
    (turn : ∀ i x H H', i < n → Pv i H → Y i H x H' → T x H' (Pv (i + 1))) (hd : ∀ H, Pv n H → Qd H) :
    ∃ W : Nat → Nat → Hp → Prop, (∃ m, W 0 m Hs) ∧ ∀ i m H, W i m H → (J.stop i H ∧ Qd H) ∨ (J.go i H ∧ ∃ next : Hp → Prop, (∀ H', next H' → ∃ m', m' < m ∧ W (i + 1) m' H') ∧ ∀ x H', J.yld i H x H' → T x H' next) := by
  let left (i m : Nat) (H : Hp) : Prop := i + m = n ∧ Pv i H
  refine ⟨left, ⟨n, Nat.zero_add n, h0⟩, ?_⟩
  rintro i (_ | m) H ⟨rfl, p⟩
  · exact .inl ⟨w.stops H (hG i H (Nat.le_refl i) p), hd H p⟩
  · have lt : i < i + (m + 1) := by omega
    have q := hG i H (Nat.le_of_lt lt) p
    exact .inr ⟨w.goes i H lt q, Pv (i + 1), fun H' p' => ⟨m, Nat.lt_succ_self m, by omega, p'⟩, fun x H' y => turn i x H H' lt p (w.yields i H x H' lt q y)⟩
theorem dc_it {J : It} {n : Nat} {G : Hp → Prop} {Y : Nat → Hp → V → Hp → Prop} {o0 : HO} (w : Walk J n G Y) {g : TG} {tt : TT} {tk tv : TE} {vs : List Nat} {σ : L2.St} {H1 : Hp} {D : Addr} {Qd : Hp → Prop} (Pv : Nat → Hp → Prop) (h0 : Pv 0 (upd H1 D o0)) (hG : ∀ i H, i ≤ n → Pv i H → G H)
    (turn : ∀ i x H H', i < n → Pv i H → Y i H x H' → DcTurn g tt tk tv vs σ D x H' (Pv (i + 1))) (hd : ∀ H, Pv n H → Qd H) : ∃ W : Nat → Nat → Hp → Prop, (∃ m, W 0 m (upd H1 D o0)) ∧ DcTurns J g tt tk tv vs σ D Qd W :=
  measured w (DcTurn g tt tk tv vs σ D) Pv h0 hG turn hd
end
end OWR

/-! ## OWR5 -/
/-! OWR5: sorted of a list of data. -/
namespace OWR
open PySem PySem.Spec PyProof.Rows L2 PySem.W
theorem each_of {α β : Type} {R : α → β → Prop} : ∀ {bs : List β} {as : List α}, as.length = bs.length → (∀ (i : Nat) (a : α) (b : β), as[i]? = some a → bs[i]? = some b → R a b) → EachIs R as bs
  | [], [], _, _ => .nil
  | [], _ :: _, no, _ => nomatch no
  | _ :: _, [], no, _ => nomatch no
  | b :: bs, a :: as, h, f => .cons (f 0 a b rfl rfl) (each_of (by simpa using h) fun i x y e1 e2 => f (i + 1) x y (by simpa using e1) (by simpa using e2))
theorem vals_of_each {bs : List (V × PyData)} : ∀ {us : List Value}, EachIs (fun (u : Value) (p : V × PyData) => RelV p.1 u) us bs → Vals (bs.map (·.1)) us := by
  induction bs with
  | nil => intro us h; cases h; exact .nil
  | cons b bs ih => intro us h; cases h with | cons r t => exact .cons r (ih t)
theorem each_of_vals : ∀ {bs : List (V × PyData)} {us : List Value}, Vals (bs.map (·.1)) us → EachIs (fun (u : Value) (p : V × PyData) => RelV p.1 u) us bs
  | [], _, h => by cases h; exact .nil
  | b :: bs, _, h => by
    rw [List.map_cons] at h
    cases h with | cons r t => exact .cons r (each_of_vals t)
/-- sorted(xs), each item data, all alike: some arrangement -/
def rSortedDat (K : PySem.W.Frag) : List V → Hp → VK → Prop := fun vs H Q => ∃ (a : Addr) (ps : List (V × PyData)), vs = [V.ref a] ∧ SqL K H a (ps.map (·.1)) ∧ (∀ p, p ∈ ps → Dp K H p.1 p.2) ∧ AllAlike (ps.map (·.2)) ∧ Sortable (ps.map (·.2)) ∧ (∀ p, p ∈ ps → p.2.depth ≤ 60) ∧
  ∀ (ys : List V) (p : Addr), ys.Perm (ps.map (·.1)) → H p = none → Q (.ref p) (upd H p (.lst ys))
section
variable {X : Cx}
theorem cr_sortedDat (hu : X.A.units + 64 < cLine) : CallR X (.builtin "sorted") (rSortedDat X.K) := by
  rintro pins s σ H _ us Q I r ⟨a, ps, rfl, hs, hd, hal, hk, hdep, q⟩
  have ⟨its, rv, hl, hz⟩ := I.list hs
  rw [Vals.ref1 r]
  have e := each_of_vals rv
  have er : EachIs (fun v (b : V × PyData) => ∃ as, Reads s.heap v b.2 as) its ps := by
    refine each_of e.length fun i u p e1 e2 => ?_
    obtain ⟨u2, hu2, ru2⟩ := rv.get (i := i) (x := p.1) (by rw [List.getElem?_map, e2]; rfl)
    rw [e1] at hu2; cases hu2
    exact Dp.reads I p.2 p.1 u (hd p (List.mem_of_getElem? e2)) ru2
  refine sorted_data (enc := fun p : V × PyData => p.2) (bs := ps) hl.isList e er hal hk (by rw [List.length_map] at hz; exact hz) (fun b hb => by have := hdep b hb; omega) fun out ho eo => ?_
  have ro := vals_of_each eo
  have perm : ((ps.mergeSort (dataLe false fun p => p.2)).map (·.1)).Perm (ps.map (·.1)) := (List.mergeSort_perm ps _).map _
  have ⟨ep, he'⟩ := sortedAll_at s.heap its out.toArray
  have hlen : ((ps.mergeSort (dataLe false fun p => p.2)).map (·.1)).length ≤ sizeLine := by
    rw [perm.length_eq]; exact hz
  exact ⟨.ref _, upd H (s.heap.objs.size + 1) (.lst ((ps.mergeSort (dataLe false fun p => p.2)).map (·.1))), I.laid (t' := s.toks) (fun _ _ => PyProof.Rows.sortedAll_old) (Nat.le_succ _) ⟨hlen, out, ep, ro, he'⟩, rfl, q _ _ perm (I.hok.fresh (Nat.le_succ _))⟩
end
end OWR

/-! ## OWR6 -/
/-! OWR6: dicts whose keys are tuples of numbers and of tuples of numbers. -/
namespace OWR
open PySem PySem.Spec L2 PyProof.Rows
mutual
/-- a value that is a nested key, over tracked tuples -/
inductive NKv (H : Hp) : NestedKey → V → Prop
  | int (i : Int) : NKv H (.num i) (.int i)
  | tup {a : Addr} {xs : List V} {ks : List NestedKey} : H a = some (.tup xs) → NKs H ks xs → NKv H (.tup ks) (.ref a)
inductive NKs (H : Hp) : List NestedKey → List V → Prop
  | nil : NKs H [] []
  | cons {k : NestedKey} {v : V} {ks : List NestedKey} {vs : List V} : NKv H k v → NKs H ks vs → NKs H (k :: ks) (v :: vs)
end
section
variable {P : Program} {w : World} {H H' : Hp} {h : Heap}
mutual
theorem NKv.is (ok : HOk P w H h) : ∀ (k : NestedKey) (v : V) (u : Value), NKv H k v → RelV v u → NestedIs h k u
  | .num i, _, _, x, r => by
    cases x
    obtain ⟨t, rfl⟩ := r
    exact .int i t
  | .tup ks, _, _, x, r => by
    cases x with
    | tup e a =>
      cases r
      obtain ⟨_, its, rv, o, ho, hc, n, hd⟩ := ok _ _ e
      exact .tup ho hc hd (by simpa using NKs.is ok ks _ its a rv)
  | .none, _, _, x, _ => by cases x
  | .text _, _, _, x, _ => by cases x
theorem NKs.is (ok : HOk P w H h) : ∀ (ks : List NestedKey) (vs : List V) (us : List Value), NKs H ks vs → Vals vs us → NestedAll h ks us
  | [], _, _, x, r => by cases x; cases r; exact .nil
  | k :: ks, _, _, x, r => by
    cases x with
    | cons x1 x2 =>
      cases r with
      | cons r1 r2 => exact .cons (NKv.is ok k _ _ x1 r1) (NKs.is ok ks _ _ x2 r2)
end
mutual
theorem NKv.keep (ht : ∀ b ys, H b = some (.tup ys) → H' b = some (.tup ys)) : ∀ (k : NestedKey) (v : V), NKv H k v → NKv H' k v
  | .num i, _, x => by cases x; exact .int i
  | .tup ks, _, x => by cases x with | tup e a => exact .tup (ht _ _ e) (NKs.keep ht ks _ a)
  | .none, _, x => by cases x
  | .text _, _, x => by cases x
theorem NKs.keep (ht : ∀ b ys, H b = some (.tup ys) → H' b = some (.tup ys)) : ∀ (ks : List NestedKey) (vs : List V), NKs H ks vs → NKs H' ks vs
  | [], _, x => by cases x; exact .nil
  | k :: ks, _, x => by cases x with | cons x1 x2 => exact .cons (NKv.keep ht k _ x1) (NKs.keep ht ks _ x2)
end
end
/-- what the dict's own object is -/
def NRawP (P : Program) (w : World) (a : Addr) (xs : List (NestedKey × Addr × Value)) (h : Heap) : Prop :=
  xs.length ≤ sizeLine ∧ (a == sysModules) = false ∧ ∃ o es ep, h.get? a = some o ∧ o.ExactDict ∧ o.data = .dict es ep ∧ es.toList = xs.map (entryOfKey (nestedKind P w)) ∧ (xs.map (·.1)).Nodup
def NRaw (P : Program) (w : World) (a : Addr) (xs : List (NestedKey × Addr × Value)) : HO := .ext (NRawP P w a xs)
abbrev KN (H : Hp) : List (NestedKey × V) → List (NestedKey × Addr × Value) → Prop := Paired fun p q => p.1 = q.1 ∧ (NKv H p.1 (.ref q.2.1) ∧ p.1.depth ≤ 8) ∧ RelV p.2 q.2.2
/-- at a stands a dict with nested keys -/
def ND (P : Program) (w : World) (H : Hp) (a : Addr) (kvs : List (NestedKey × V)) : Prop := ∃ xs, H a = some (NRaw P w a xs) ∧ KN H kvs xs
section
variable {P : Program} {w : World} {H H' : Hp} {h h' : Heap} {a : Addr} {kvs : List (NestedKey × V)} {xs : List (NestedKey × Addr × Value)}
theorem NRaw.ok (p : NRawP P w a xs h) : ObjOk P w H h a (NRaw P w a xs) := by
  obtain ⟨z, hd, o, es, ep, ho, r⟩ := id p
  exact ⟨p, ⟨o, ho⟩, fun h1 h2 q k => by
    obtain ⟨z, hd, o, es, ep, ho, r⟩ := q
    exact ⟨z, hd, o, es, ep, k o ho, r⟩⟩
theorem KN.keep {xs : List (NestedKey × Addr × Value)} (r : KN H kvs xs) (ht : ∀ b ys, H b = some (.tup ys) → H' b = some (.tup ys)) : KN H' kvs xs :=
  Paired.mapP r fun _ _ z => ⟨z.1, ⟨z.2.1.1.keep ht, z.2.1.2⟩, z.2.2⟩
theorem ND.keep (d : ND P w H a kvs) (ha : ∀ o, H a = some o → H' a = some o) (ht : ∀ b ys, H b = some (.tup ys) → H' b = some (.tup ys)) : ND P w H' a kvs := by
  obtain ⟨xs, e, r⟩ := d
  exact ⟨xs, ha _ e, KN.keep r ht⟩
theorem key_here {q : NestedKey × Addr × Value} (qs : List (NestedKey × Addr × Value)) {k : NestedKey} (e : q.1 = k) : atKey (q :: qs) k = some q.2 := by
  show Option.map _ (List.find? (fun x : NestedKey × Addr × Value => decide (x.1 = k)) (q :: qs)) = _
  rw [List.find?_cons_of_pos (by simpa using e)]
  rfl
theorem key_on {q : NestedKey × Addr × Value} (qs : List (NestedKey × Addr × Value)) {k : NestedKey} (e : q.1 ≠ k) : atKey (q :: qs) k = atKey qs k := by
  unfold atKey
  rw [List.find?_cons_of_neg (by simpa using e)]
theorem KN.val (r : KN H kvs xs) (k : NestedKey) : RelO (valV kvs k) ((atKey xs k).map (·.2)) := by
  induction r with
  | nil => trivial
  | cons both _ ih =>
    obtain ⟨same, -, rv⟩ := both
    rcases Classical.em (_ = k) with here | on
    · rw [valV_pos here, key_here _ (same ▸ here)]
      exact rv
    · rw [valV_neg on, key_on _ (same ▸ on)]
      exact ih
theorem KN.none (r : KN H kvs xs) {k : NestedKey} (h : valV kvs k = Option.none) : atKey xs k = Option.none := by
  rcases e : atKey xs k with _ | p
  · rfl
  · obtain ⟨v, ev, -⟩ := relO_some (r.val k) e
    cases h.symm.trans ev
theorem KN.keys (ok : HOk P w H h) (r : KN H kvs xs) : ∀ x ∈ xs, (nestedKind P w).is h x.1 x.2.1 := by
  induction r with
  | nil => exact List.forall_mem_nil _
  | cons both _ ih =>
    obtain ⟨same, ⟨nk, deep⟩, -⟩ := both
    rw [same] at nk deep
    exact List.forall_mem_cons.mpr ⟨⟨NKv.is ok _ _ _ nk rfl, deep⟩, ih⟩
theorem nd_of (ok : HOk P w H h) (d : ND P w H a kvs) : ∃ xs, H a = some (NRaw P w a xs) ∧ KN H kvs xs ∧ xs.length ≤ sizeLine ∧ (a == sysModules) = false ∧ h.DictOfH (nestedKind P w) a xs := by
  obtain ⟨xs, e, r⟩ := d
  obtain ⟨⟨few, nm, o, es, ep, got, ex, data, ents, uniq⟩, -⟩ := ok a _ e
  exact ⟨xs, e, r, few, nm, o, es, ep, got, ex, data, ents, r.keys ok, uniq⟩
theorem KN.snoc (r : KN H kvs xs) {k : NestedKey} {b : Addr} {v : V} {u : Value} (hk : NKv H k (.ref b)) (hdp : k.depth ≤ 8) (hr : RelV v u) (hn : valV kvs k = Option.none) : KN H (putK kvs k v) (storedH xs k b u) := by
  have e := r.none hn
  rw [putK_new _ hn]
  unfold storedH
  rw [e]
  exact Paired.snoc r ⟨rfl, ⟨hk, hdp⟩, hr⟩
end
section
variable {X : Cx} {pins : List (Addr × Obj)} {σ : L2.St} {H : Hp} {s : Shared} {a b : Addr} {k : NestedKey} {v d : V} {kvs : List (NestedKey × V)} {A : Around} {E : Value → Shared → Prop}
theorem nroom (hu : A.units + 64 < cLine) : (nestedKind X.prog X.w).room A.in1 := by show A.units + 1 + 8 < cLine; omega
theorem nd_write {xs' : List (NestedKey × Addr × Value)} {h' : Heap} {t' : Nat} (I : Inv X pins σ H s) {xs : List (NestedKey × Addr × Value)} (e : H a = some (NRaw X.prog X.w a xs)) (hd : (a == sysModules) = false) (hl : xs'.length ≤ sizeLine)
    (dd : h'.DictOfH (nestedKind X.prog X.w) a xs') (hs : Heap.SameBut a s.heap h') : Inv X pins σ (upd H a (NRaw X.prog X.w a xs')) { s with heap := h', toks := t' } := by
  obtain ⟨o, es, ep, ho, hx, hdt, he, _, nd⟩ := dd
  exact d_write I (by rw [e]; exact True.intro) hs ⟨o, ho⟩ (NRaw.ok ⟨hl, hd, o, es, ep, ho, hx, hdt, he, nd⟩)
theorem tup_upd {H : Hp} {a : Addr} {o : HO} {P : Program} {w : World} {xs : List (NestedKey × Addr × Value)} (e : H a = some (NRaw P w a xs)) : ∀ c ys, H c = some (.tup ys) → upd H a o c = some (.tup ys) := fun c ys ec => by
  rw [upd_ne (ne_of ec e (fun z => nomatch z))]; exact ec

/-! {}, k not in d, d[k] = v, d.setdefault(k, v) -/
def tDNewN (P : Program) (w : World) : TE := fun _ H Q => ∀ p o, H p = none → ND P w (upd H p o) p [] → Q (.ref p) (upd H p o)
theorem pe_dnewN {pos : Pos} : PE X (.Dict [] [] pos) (tDNewN X.prog X.w) where
  run pins s σ H Q I h := by
    have nm : (s.heap.objs.size == sysModules) = false := beq_eq_false_iff_ne.mpr (Nat.ne_of_gt I.big)
    have raw : NRawP X.prog X.w s.heap.objs.size [] (s.heap.push { cls := .type "dict", data := .dict #[] }) := ⟨Nat.zero_le _, nm, _, #[], 0, Heap.get?_push_size _ rfl, ⟨rfl, rfl, rfl⟩, rfl, rfl, List.nodup_nil⟩
    have laid := I.laid (t' := s.toks) (fun _ _ e => Heap.get?_push_of_some _ e) (Nat.le_refl _) (NRaw.ok (H := upd H _ (NRaw X.prog X.w s.heap.objs.size [])) raw)
    exact wpAny_Dict_empty ⟨.ref s.heap.objs.size, _, laid, rfl, h _ _ (I.hok.fresh (Nat.le_refl _)) ⟨[], upd_same, .nil⟩⟩
variable {o i : Expr} {td ty tv tx : TE}
/-- y is a key, nested, of the dict at a -/
structure NKeyAt (P : Program) (w : World) (H : Hp) (a : Addr) (kvs : List (NestedKey × V)) (k : NestedKey) (b : Addr) : Prop where
  dict : ND P w H a kvs
  key : NKv H k (.ref b)
  deep : k.depth ≤ 8
def tNNotIn (P : Program) (w : World) (ty td : TE) : TE := fun σ H Q => ty σ H fun y H1 => td σ H1 fun x H2 => ∃ a kvs k b, x = .ref a ∧ ND P w H2 a kvs ∧ y = .ref b ∧ NKv H2 k (.ref b) ∧ k.depth ≤ 8 ∧ Q (.bl (!(valV kvs k).isSome)) H2
theorem pc_nnotin (hu : X.A.units + 64 < cLine) (hi : PE X i ty) (ho : PE X o td) : PC X .NotIn i o (tNNotIn X.prog X.w ty td) := by
  constructor
  intro pins s σ H Q I h
  refine thn (hi.run pins s σ H _ I h) ?_
  rintro iv s1 ⟨_, H1, I1, ry, q1⟩
  refine thn (ho.run pins s1 σ H1 _ I1 q1) ?_
  rintro ov s2 ⟨_, H2, I2, rx, a, kvs, k, b, rfl, nd, rfl, key, deep, q2⟩
  obtain rfl : ov = .ref a := rx
  obtain rfl : iv = .ref b := ry
  obtain ⟨xs, -, r, -, nm, dd⟩ := nd_of I2.hok nd
  have found : (valV kvs k).isSome = (atKey xs k).isSome := (r.val k).isSome_eq.trans (Option.isSome_map ..)
  rw [found] at q2
  exact wpAny_notIn_heap (nroom (X := X) hu) ⟨NKv.is I2.hok _ _ _ key rfl, deep⟩ nm dd ⟨.bl _, H2, I2.tok _, rfl, q2⟩
def rSetN (P : Program) (w : World) : TSet := fun o i v H Q => ∃ a kvs k b, o = .ref a ∧ ND P w H a kvs ∧ i = .ref b ∧ NKv H k (.ref b) ∧ k.depth ≤ 8 ∧ valV kvs k = none ∧ kvs.length < sizeLine ∧ ∀ ob, ND P w (upd H a ob) a (putK kvs k v) → Q (upd H a ob)
/-- a key that was not there, set: the dict that then stands at a -/
theorem nd_put {k : NestedKey} {u : Value} {xs : List (NestedKey × Addr × Value)} {h' : Heap} {t' : Nat} (I : Inv X pins σ H s) (e : H a = some (NRaw X.prog X.w a xs)) (r : KN H kvs xs) (nm : (a == sysModules) = false) (key : NKv H k (.ref b)) (deep : k.depth ≤ 8) (rv : RelV v u)
    (new : valV kvs k = none) (few : kvs.length < sizeLine) (after : h'.DictOfH (nestedKind X.prog X.w) a (storedH xs k b u)) (same : Heap.SameBut a s.heap h') :
    ∃ ob, Inv X pins σ (upd H a ob) { s with heap := h', toks := t' } ∧ ND X.prog X.w (upd H a ob) a (putK kvs k v) := by
  have r2 := r.snoc key deep rv new
  have len : (storedH xs k b u).length ≤ sizeLine := Paired.length r2 ▸ room_put few k v
  exact ⟨_, nd_write I e nm len after same, _, upd_same, KN.keep r2 (tup_upd e)⟩
theorem set_nd (hu : X.A.units + 64 < cLine) : PSet X (rSetN X.prog X.w) := by
  rintro pins s σ H _ _ v ov iv u Q I ro ri rv ⟨a, kvs, k, b, rfl, nd, rfl, key, deep, new, few, q⟩
  obtain rfl : ov = .ref a := ro
  obtain rfl : iv = .ref b := ri
  obtain ⟨xs, e, r, z, nm, dd⟩ := nd_of I.hok nd
  refine wpAny_setItem_heap (hsz := z) (nroom (X := X) hu) ⟨NKv.is I.hok _ _ _ key rfl, deep⟩ dd fun h' after same => ?_
  obtain ⟨ob, J, nd'⟩ := nd_put I e r nm key deep rv new few after same
  exact ⟨_, J, q ob nd'⟩
def tNSetd (P : Program) (w : World) (td ty tx : TE) : TE := fun σ H Q => td σ H fun x H1 => ∃ a, x = .ref a ∧ (∃ kvs, ND P w H1 a kvs) ∧ ty σ H1 fun y H2 => tx σ H2 fun z H3 => ∃ kvs k b, ND P w H3 a kvs ∧ y = .ref b ∧ NKv H3 k (.ref b) ∧ k.depth ≤ 8 ∧ kvs.length < sizeLine ∧
  (∀ v, valV kvs k = some v → Q v H3) ∧ (valV kvs k = none → ∀ ob, ND P w (upd H3 a ob) a (putK kvs k z) → Q z (upd H3 a ob))
theorem pe_nsetd {e f : Expr} {apos cpos : Pos} (hu : X.A.units + 64 < cLine) (ho : PE X o td) (he : PE X e ty) (hf : PE X f tx) (m : M2 X o "setdefault" apos e f cpos) : PE X (.Call (.Attribute o "setdefault" apos) [e, f] [] cpos) (tNSetd X.prog X.w td ty tx) := by
  refine setdefault_parts ho he hf m (fun H a => ∃ kvs, ND X.prog X.w H a kvs) ?_ (fun a y z H Q => ∃ kvs k b, ND X.prog X.w H a kvs ∧ y = .ref b ∧ NKv H k (.ref b) ∧ k.depth ≤ 8 ∧ kvs.length < sizeLine ∧
    (∀ v, valV kvs k = some v → Q v H) ∧ (valV kvs k = none → ∀ ob, ND X.prog X.w (upd H a ob) a (putK kvs k z) → Q z (upd H a ob))) (fun h => h) ?_
  · rintro pins σ H s a I ⟨kvs, nd⟩
    obtain ⟨_, -, -, -, -, dd⟩ := nd_of I.hok nd
    exact ⟨dd.typeIs, dd.imp fun ob z => z.elim fun _ z => z.elim fun _ z => ⟨z.1, z.2.1.2.1⟩⟩
  · rintro pins σ H s a _ z u r Q I ru rz ⟨kvs, k, b, nd, rfl, key, deep, few, old, new⟩
    obtain rfl : u = .ref b := ru
    obtain ⟨xs, e, rel, zl, nm, dd⟩ := nd_of I.hok nd
    refine call_setdefault_heap (hsz := zl) (nroom (X := X) hu) ⟨NKv.is I.hok _ _ _ key rfl, deep⟩ nm dd (fun p hp => ?_) fun hn h' after same => ?_
    · obtain ⟨v, ev, rv⟩ := relO_some (rel.val k) hp
      exact ⟨v, H, I.tok _, rv, old v ev⟩
    · have free := relO_none (rel.val k) hn
      obtain ⟨ob, J, nd'⟩ := nd_put I e rel nm key deep rz free few after same
      exact ⟨z, _, J, rz, new free ob nd'⟩
end
end OWR

/-! ## OWR7 -/
/-! OWR7: a display of one entry, of either kind of keys. -/
namespace OWR
open PySem PySem.Spec L2 PyProof.Rows
def tDisp1A (o0 : HO) (tk tv : TE) : TE := fun σ H Q => ∀ p, H p = none → tk σ (upd H p o0) fun y H1 => tv σ H1 fun z H2 => ∃ H3, DPut H2 p y z H3 ∧ Q (.ref p) H3
section
variable {X : Cx}
theorem pe_disp1A (o0 : HO) (h0 : E0 o0) (hu : X.A.units < cLine) {k v : Expr} {tk tv : TE} {pos : Pos} (hk : PE X k tk) (hv : PE X v tv) : PE X (.Dict [some k] [v] pos) (tDisp1A o0 tk tv) := by
  constructor
  intro pins s σ H Q I q
  have free : H s.heap.objs.size = none := I.hok.fresh (Nat.le_refl _)
  have I1 := I.laid (a := s.heap.objs.size) (o := o0) (h' := s.heap.push { cls := .type "dict", data := .dict #[] }) (t' := s.toks) (fun _ _ q => Heap.get?_push_of_some _ q) (Nat.le_refl _) (h0.ok s.heap I.big)
  refine wpAny_Dict_any rfl rfl (by simp) (by show 1 ≤ 15; decide) (pairTrees_cons_walk (thn (hk.run pins _ σ _ _ I1 (q _ free)) fun u s1 ⟨y, H1, I2, ry, q1⟩ => thn (hv.run pins s1 σ H1 _ I2 q1) fun r s2 ⟨z, H2, I3, rz, H3, put, q2⟩ => pairTrees_nil_walk ?_))
  unfold storeAll
  rw [List.forIn_cons]
  refine wpAny_bind (wpAny_bind (setA (X := X) hu I3 put ry rz fun s3 I4 => wpAny_pure ?_))
  show wpAny (model X.prog X.w) X.A (forIn [] PUnit.unit _) _ _ _
  rw [List.forIn_nil]
  exact wpAny_pure ⟨.ref s.heap.objs.size, H3, I4, rfl, q2⟩
end
end OWR

/-! ## OWR8 -/
/-! OWR8: a law whose own def shows lists with repr: what the caller guards must be known there (nothing). The library's promise of a def (FnOk) speaks of any caller;
Answers speaks of one caller, FnG of all that guard nothing. The law's call is then three facts: the heap as the walk sees it, the entry, the end. -/
namespace OWR
open PySem PySem.Spec L2 PyProof.Rows
section
variable {P : Program} {w : World} {K : PySem.W.Frag} {mg : Str → Option Value} {base : Heap} {CX : CXT} {A : Around} {k : Nat} {f : Addr} {fd : FuncData} {N ps : List Str} {sp : Sp}
/-- called from A, the def at f keeps sp -/
def Answers (P : Program) (w : World) (K : PySem.W.Frag) (mg : Str → Option Value) (base : Heap) (CX : CXT) (A : Around) (f : Addr) (fd : FuncData) (ps : List Str) (sp : Sp) : Prop :=
  ∀ outer s H args us vs Q E, Env0 P w K mg base A outer s H → BindsTo s fd args (ps.zip us) → Vals vs us → sp vs H Q E → codeAny (model P w) A (.call (.ref f) args) (CR CX outer P w H s Q E) s
/-- .. from every caller with room that guards nothing -/
def FnG (P : Program) (w : World) (K : PySem.W.Frag) (mg : Str → Option Value) (base : Heap) (CX : CXT) (k : Nat) (f : Addr) (fd : FuncData) (ps : List Str) (sp : Sp) : Prop :=
  ∀ A : Around, A.guards = some [] → Room k A → Answers P w K mg base CX A f fd ps sp
/-- how a body ends is how its call ends -/
theorem call_end {qual : Str} {scope : Scope} {cdv : Value} {outer : List Env} {s s' : Shared} {H : Hp} {Q : VK} {E : XK} {fl : Flow} (h : SP (cxOf CX P w K mg base N qual scope f cdv A outer s H E) [] { nx := fun _ H' => Q .non H', rt := Q } fl s') :
    CR CX outer P w H s Q E (.ok (.ret (match (generalizing := false) fl with | .ret v => v | _ => .none))) s' := by
  rcases fl with _ | _ | _ | u
  · obtain ⟨σ', H', J, q⟩ := h
    exact ⟨.non, H', J.os, J.bare, J.base, J.hok, rfl, q⟩
  · exact h.elim fun _ z => z.elim fun _ z => z.2.elim
  · exact h.elim fun _ z => z.elim fun _ z => z.2.elim
  · obtain ⟨v, σ', H', J, rv, q⟩ := h
    exact ⟨v, H', J.os, J.bare, J.base, J.hok, rv, q⟩
theorem answers_of {name qual : Str} {params : Arguments} {body : List Stmt} {scope : Scope} {dV kV doc pm cdv ct oc : Value} {an od : Option Addr} {osl : Array (Option Value)} (dep : A.depth < recursionLimit) (calm : A.handled = none)
    (there : K.lookup f = some ⟨oc, od, .func (PySem.W.fnOf name qual params body scope dV kV doc pm an cdv ct), osl⟩) (code : PySem.W.codeIn K cdv qual = true) (S : FnScope N ps scope) (len : ∀ vs H Q E, sp vs H Q E → vs.length = ps.length)
    (runs : ∀ outer s H vs Q E, sp vs H Q E → ∃ t, PSs (cxOf CX P w K mg base N qual scope f cdv A outer s H E) body t ∧ t { nx := fun _ H' => Q .non H', rt := Q } (start N vs) H) :
    Answers P w K mg base CX A f (PySem.W.fnOf name qual params body scope dV kV doc pm an cdv ct) ps sp := by
  intro outer s H args us vs Q E e0 binds r q
  have old : ∀ b o, base.get? b = some o → s.heap.get? b = some o := fun b o e => (e0.bs b o e).1
  have inK := e0.mod.kin.keeps old
  have kinds : ∀ y ∈ ps.zip us, scope.names.lookup y.1 = some .local ∨ (scope.names.lookup y.1 = some .cell ∧ ((cellsFrom (s.heap.objs.size + 1) scope.names []).lookup y.1).isSome = true) := by
    rintro ⟨n, u⟩ m
    exact (S.par n (List.of_mem_zip m).1).imp_right fun c => ⟨c, PySem.W.cellsFrom_some _ _ _ (.inl c)⟩
  apply codeAny_call_function dep (inK _ _ there) rfl S.co S.gen rfl (PySem.W.codeRec_of inK code)
  apply binds
  apply wpAny_newFunctionEnv_cells S.kind kinds
  rintro _ rfl s1 entered
  refine ⟨(e0.mod.nolimit.keeps old).keeps entered.toInCall.keep, codeAny_func ?_⟩
  obtain ⟨t, ht, hq⟩ := runs outer s H vs Q E q
  have I : Inv (cxOf CX P w K mg base N qual scope f cdv A outer s H E) [] (start N vs) H s1 := inv_start S calm e0 (len _ _ _ _ q) r entered
  exact wpAny_mono (ht.run [] s1 _ H _ I hq) (fun fl s' h => call_end h) fun _ _ h => h
theorem fun_okG {x qual : Str} {st : Stmt} (F : L2.Fun K x qual st f fd) (S : FnScope N ps (defScope st)) (len : ∀ vs H Q E, sp vs H Q E → vs.length = ps.length)
    (runs : ∀ (cdv : Value) (A : Around) (outer : List Env) (s : Shared) (H : Hp) (vs : List V) (Q : VK) (E : XK), (A.deeper (envOfC qual (defScope st) s.heap.objs.size f cdv)).guards = some [] → Room k (A.deeper (envOfC qual (defScope st) s.heap.objs.size f cdv)) → sp vs H Q E →
      ∃ t, PSs (cxOf CX0 P w K mg base N qual (defScope st) f cdv A outer s H E).nox (defBody st) t ∧ t { nx := fun _ H' => Q .non H', rt := Q } (start N vs) H) : FnG P w K mg base CX0 (k + 1) f fd ps sp := by
  intro A none_ room
  obtain ⟨_, _, _, _, _, _, cdv, _, _, rfl, there, code⟩ := F.ex
  exact answers_of room.depth room.hd there code S len fun outer s H vs Q E q => (runs cdv A outer s H vs Q E none_ (room.deeper _) q).imp fun t h => ⟨h.1.nox, h.2⟩
end

/-! ### the law's own call -/
section
variable {P : Program} {w : World} {K : PySem.W.Frag} {mg mb : Str → Option Value} {a : Addr} {s₁ : Shared} {vs : List Value} {ns : List Int}
/-- the heap as the walk sees it at the start: the script's list and nothing else, locked; not even that where the list is a constant of the module -/
structure Script (P : Program) (w : World) (K : PySem.W.Frag) (a : Addr) (ns : List Int) (s₁ : Shared) (H : Hp) : Prop where
  only : Only H
  list : SqL K H a (ns.map V.int)
  ok : HOk P w H s₁.heap
  one : ∀ b, H b ≠ none → b = a
  notK : H a ≠ none → K.lookup a = none
theorem script_at (inK : K.In s₁.heap) (got : s₁.heap.get? a = some { cls := .type "list", data := .seq vs.toArray }) (are : IntsAre vs ns) (small : ns.length ≤ sizeLine) : ∃ H, Script P w K a ns s₁ H := by
  have rel := vals_ints are
  rcases hk : K.lookup a with _ | o
  · let ob : Obj := { cls := .type "list", data := .seq vs.toArray }
    let H : Hp := fun b => if b = a then some (.frz ob (.lst (ns.map V.int))) else none
    have self_ : H a = some (.frz ob (.lst (ns.map V.int))) := if_pos rfl
    have other : ∀ b, b ≠ a → H b = none := fun b ne => if_neg ne
    refine ⟨H, fun b => ?_, .inl (.inr ⟨ob, self_⟩), fun b u e => ?_, fun b ne => Classical.byContradiction fun z => ne (other b z), fun _ => hk⟩
    · rcases Classical.em (b = a) with rfl | ne
      · exact .inr ⟨ob, _, self_⟩
      · exact .inl (other b ne)
    · rcases Classical.em (b = a) with rfl | ne
      · cases self_.symm.trans e
        exact ⟨got, by simpa using small, vs, _, rel, got⟩
      · cases (other b ne).symm.trans e
  · have e := Option.some.inj ((inK a o hk).symm.trans got)
    subst e
    have short : vs.toArray.size ≤ sizeLine := by rw [List.size_toArray, are.length]; exact small
    exact ⟨fun _ => none, fun _ => .inl rfl, .inr ⟨_, vs.toArray, _, hk, rfl, rfl, rfl, short, rel⟩, fun _ _ e => (nomatch e), fun _ ne => absurd rfl ne, fun ne => absurd rfl ne⟩
/-- the call's entry: what the walk does not track is the base -/
theorem Script.entry {H : Hp} (S : Script P w K a ns s₁ H) (inK : K.In s₁.heap) (names : s₁.heap.Ns mainGlobals mg) (blt : s₁.heap.Ns builtinsNs mb) (boot : ∀ x : Str, x ≠ "__name__" → mb x = bootBuiltins x) (free : s₁.heap.NoLimit)
    (bare : s₁.gens = #[]) (got : s₁.heap.get? a = some { cls := .type "list", data := .seq vs.toArray }) : Env0 P w K mg (hidT s₁.heap H) callerA [] s₁ H := by
  have shown {b o} (e : s₁.heap.get? b = some o) (ne : b = a → H a = none) : (hidT s₁.heap H).get? b = some o :=
    hidT_get e (Classical.byContradiction fun z => by have q := S.one b z; subst q; exact z (ne rfl))
  have dict {b o} {es : Array DictEntry} {ep : Nat} (e : s₁.heap.get? b = some o) (d : o.data = .dict es ep) : (hidT s₁.heap H).get? b = some o :=
    shown e fun q => by subst q; cases got.symm.trans e; cases d
  have ns' {b} {m : Str → Option Value} (n : s₁.heap.Ns b m) : (hidT s₁.heap H).Ns b m := let ⟨o, es, ep, e, d, r⟩ := n; ⟨o, es, ep, dict e d, d, r⟩
  have const : K.In (hidT s₁.heap H) := fun b o e => shown (inK b o e) fun q => by
    subst q
    exact Classical.byContradiction fun z => nomatch (S.notK z).symm.trans e
  exact ⟨rfl, ⟨const, ns' names, ⟨mb, ns' blt, boot⟩, free.imp fun _ z => ⟨ns' z.1, z.2⟩⟩, fun _ _ e => of_hidT e, Nat.le_of_eq (hidT_size _ _), trivial, nofun, S.ok, .of_eq bare⟩
/-- the call's end: True, and all that stood before stands -/
theorem Script.end_ {H : Hp} (S : Script P w K a ns s₁ H) {u : Value} {s' : Shared} (h : CE [] P w H s₁ (fun v _ => v = .bl true) u s') : u = .bool true ∧ OldK s₁.heap s'.heap ∧ s'.os = s₁.os ∧ AllBare s'.gens := by
  obtain ⟨_, H', os, bare, un, ok', ru, rfl⟩ := h
  refine ⟨ru, OldK.of_keep fun b o e => ?_, os, bare⟩
  rcases S.only b with z | ⟨ob, xs, z⟩
  · exact un.keep b o e z nofun nofun
  · obtain ⟨e1, -⟩ := S.ok b _ z
    obtain ⟨e2, -⟩ := ok' b _ (un.frzs b ob _ z)
    exact Option.some.inj (e1.symm.trans e) ▸ e2
end
theorem walk_ofG {l : PySem.W.OpenLaw} {n k : Nat} {q : Program} {loose : List Str} {XP : (Str → Option Value) → Heap → Prop} {YP : World → Heap → Prop} {d : DefRec} {K : Params → PySem.W.Frag} {CX : World → CXT} {sp : World → Sp} {x : Str} (most : l.most = some n) (fits : n ≤ sizeLine)
    (plain : d.params.defaults = []) (room : Room k callerA) (constants : ∀ w h, YP w h → (K w.params).In h)
    (F : ∀ w mg fa h, (K w.params).In h → h.Ns mainGlobals mg → mg d.name = some (.ref fa) → ∃ fd : FuncData, (∀ s u, BindsTo s fd ⟨[u], []⟩ [(x, u)]) ∧ ∀ base : Heap, (K w.params).In base → base.Ns mainGlobals mg → FnG l.prog w (K w.params) mg base (CX w) k fa fd [x] (sp w))
    (asks : ∀ w H a (ns : List Int), ns.length ≤ n → Only H → SqL (K w.params) H a (ns.map V.int) → sp w [.ref a] H (fun v _ => v = .bl true) fun _ _ _ => False) (noX : ∀ w H s e s', CX w [] H s (fun _ _ _ => False) e s' → False) : PySem.W.WalkO q loose XP YP l.row.toRowW d [] (fun f vs => PySem.call f vs) := by
  apply Att.attach_call most plain
  intro w s₀ s₁ mg mb fa o pm cd doc a vs ns G Y _ _ _ named got are short bare
  have inK := constants w _ Y
  obtain ⟨fd, binds, promise⟩ := F w mg fa _ inK G.T.g named
  obtain ⟨H, S⟩ := script_at (P := l.prog) (w := w) inK got are (Nat.le_trans short fits)
  have entry := S.entry inK G.T.g G.T.b G.T.builtins G.T.nolimit bare got
  refine codeAny_mono (promise _ entry.mod.kin entry.mod.glob callerA rfl room [] s₁ H ⟨[.ref a], []⟩ [.ref a] [.ref a] _ _ entry (binds s₁ (.ref a)) (.cons rfl .nil) (asks w H a ns short S.only S.list)) ?_
  rintro (e | _ | _ | _ | u) s' h
  · exact (noX w H s₁ e s' h).elim
  · exact h.elim
  · exact h.elim
  · exact h.elim
  · obtain ⟨rfl, rest⟩ := S.end_ h
    exact ⟨rfl, rest⟩

/-! ### repr of a list of small numbers -/
/-- the list as plain data -/
abbrev intsD (ns : List Int) : PyData := .list (ns.map PyData.int)
theorem intsD_flat (ns : List Int) : PyData.hasDictAll (ns.map PyData.int) = false ∧ PyData.depthAll (ns.map PyData.int) = 0 := by
  induction ns with
  | nil => exact ⟨by simp [PyData.hasDictAll], by simp [PyData.depthAll]⟩
  | cons n ns ih => exact ⟨by rw [List.map_cons, PyData.hasDictAll, ih.1]; simp [PyData.hasDict], by rw [List.map_cons, PyData.depthAll, ih.2]; simp [PyData.depth]⟩
theorem intsD_all (K : PySem.W.Frag) (H : Hp) : ∀ ns : List Int, DpAll K H (ns.map V.int) (ns.map PyData.int)
  | [] => .nil
  | _ :: ns => .cons (.int _) (intsD_all K H ns)
def rReprL (K : PySem.W.Frag) : List V → Hp → VK → Prop := fun xs H Q => ∃ (a : Addr) (ns : List Int), xs = [.ref a] ∧ SqL K H a (ns.map V.int) ∧ (intsD ns).showable = true ∧ (intsD ns).shown.length ≤ sizeLine ∧ Q (.str (intsD ns).shown) H
theorem cr_reprL {X : Cx} (hg : X.A.guards = some []) (hu : X.A.units + 64 < cLine) : CallR X (.builtin "repr") (rReprL X.K) := by
  rintro pins s σ H _ us Q I r ⟨a, ns, rfl, list, shows, short, q⟩
  obtain rfl := Vals.ref1 r
  obtain ⟨as, reads⟩ := Dp.reads I _ _ _ (.lst list (intsD_all X.K H ns) : Dp X.K H (.ref a) (intsD ns)) rfl
  have noDict : (intsD ns).hasDict = false := by rw [PyData.hasDict]; exact (intsD_flat ns).1
  have flat : (intsD ns).depth ≤ 1 := by rw [PyData.depth, (intsD_flat ns).2]; omega
  have room : X.A.units + (intsD ns).depth + 1 < cLine := by omega
  exact repr_of_reads' reads shows (fun z => nomatch noDict.symm.trans z) hg room (fun _ _ e => e) (fun h' u tk keep => ⟨.str (intsD ns).shown, H, I.kept (t' := tk) keep, ⟨_, rfl⟩, q⟩) short
end OWR

/-! ## OWB -/
/-! OWB: the text by places; data over the tracked heap; calls. -/
namespace OWP
open PySem PySem.Spec PyProof.Rows L2 OWR
def topS (i : Nat) : Stmt := PySem.Challenge.pw_onewitness_k20_whole_finer_counters_neve.main.body.getD i (.Pass ⟨0, 0, 0, 0⟩)
abbrev St := L2.St

/-! ### a def that may be called by its name -/
structure Cal (P : Program) (w : World) (K : PySem.W.Frag) (mg : Str → Option Value) (base : Heap) (x : Str) (k : Nat) (ps : List Str) (sp : Sp) : Prop where
  ex : ∃ (f : Addr) (fd : FuncData), FnOk P w K mg base CX0 k f fd ps sp ∧ mg x = some (.ref f) ∧ PySem.W.keepIn K (.ref f) = true ∧ Binds K fd ps []
section
variable {X : Cx} {x : Str} {k : Nat} {ps : List Str} {sp : Sp} {e : Expr} {es : List Expr} {t : TA} {p pos : Pos}
theorem pe_cal (c : Cal X.prog X.w X.K X.mg X.base x k ps sp) (hr : Room k X.A) (hg : Gl X x) (ha : PA X (e :: es) t) (hdb : (x == ("__debug__" : Str)) = false := by decide) (he : starEach (e :: es) X.env = (false, eval e X.env) :: starEach es X.env := by rfl)
    (hpl : (backTo pos (starEach es X.env)).any (·.1) = false := by rfl) : PE X (.Call (.Name x p) (e :: es) [] pos) (tCall sp [] E0 t) := by
  obtain ⟨f, fd, F, g, kp, b⟩ := c.ex
  exact pe_call F hr hg g kp b .nil pass0 ha hdb he hpl
end
theorem pe_num {X : Cx} {x : Str} {i : Int} {t : Tok} {pos : Pos} (hg : Gl X x) (hm : X.mg x = some (.int i t)) (hd : (x == ("__debug__" : Str)) = false := by decide) : PE X (.Name x pos) (tC (.int i)) := pe_glob (v := .int i) hg hm ⟨_, rfl⟩ hd
/-- a method -/
structure Mth (P : Program) (w : World) (K : PySem.W.Frag) (mg : Str → Option Value) (base : Heap) (C : Addr) (m : Str) (k : Nat) (ps : List Str) (sp : Sp) : Prop where
  ex : ∃ (f : Addr) (fd : FuncData), FnOk P w K mg base CX0 k f fd ps sp ∧ Meth K C m f ∧ Binds K fd ps []
/-- a class that is made by an __init__ of its own -/
structure Mak (P : Program) (w : World) (K : PySem.W.Frag) (mg : Str → Option Value) (base : Heap) (x : Str) (C : Addr) (k : Nat) (ps : List Str) (sp : Sp) : Prop where
  ex : ∃ (f : Addr) (fd : FuncData), FnOk P w K mg base CX0 k f fd ps sp ∧ Mk K C f ∧ mg x = some (.ref C) ∧ Binds K fd ps []
section
variable {X : Cx} {x : Str} {C : Addr} {m : Str} {k : Nat} {ps : List Str} {sp : Sp} {o e : Expr} {es : List Expr} {t : TA} {to : TE} {p pos apos : Pos}
/-- o.m(es) is told as a method's call: the object, the method looked up, the call -/
abbrev AsMethod (X : Cx) (o : Expr) (m : Str) (es : List Expr) (apos pos : Pos) (pl : Sem Bool) : Prop :=
  eval (.Call (.Attribute o m apos) es [] pos) X.env = (do
    let ov ← eval o X.env; standAt apos.atName; let (f, first) ← holding [ov] (getMethod ov m pl); callWith pos f first (backTo pos (starEach es X.env)) (backToKw pos (keywordEach [] X.env)))
theorem pe_mth {pl : Sem Bool} (ho : PE X o to) (c : Cls X.K C) (M : Mth X.prog X.w X.K X.mg X.base C m k ps sp) (hr : Room k X.A) (ha : PA X (e :: es) t)
    (hst : starEach (e :: es) X.env = (false, eval e X.env) :: starEach es X.env := by rfl)
    (hpl : (backTo pos (starEach es X.env)).any (·.1) = false := by rfl) (ht : AsMethod X o m (e :: es) apos pos pl := by rfl) : PE X (.Call (.Attribute o m apos) (e :: es) [] pos) (tMeth C m sp [] E0 to t) := by
  obtain ⟨f, fd, F, hm, b⟩ := M.ex
  exact pe_meth ho c hm F hr b .nil pass0 ha hst hpl ht
theorem pe_mth0 {pl : Sem Bool} (ho : PE X o to) (c : Cls X.K C) (M : Mth X.prog X.w X.K X.mg X.base C m k ps sp) (hr : Room k X.A) (ht : AsMethod X o m [] apos pos pl := by rfl) : PE X (.Call (.Attribute o m apos) [] [] pos) (tMeth C m sp [] E0 to tNil) := by
  obtain ⟨f, fd, F, hm, b⟩ := M.ex
  exact pe_meth0 ho c hm F hr b .nil pass0 ht
theorem pe_mak (M : Mak X.prog X.w X.K X.mg X.base x C k ps sp) (hr : Room (k + 1) X.A) (hg : Gl X x) (ha : PA X (e :: es) t) (hdb : (x == ("__debug__" : Str)) = false := by decide) (he : starEach (e :: es) X.env = (false, eval e X.env) :: starEach es X.env := by rfl)
    (hpl : (backTo pos (starEach es X.env)).any (·.1) = false := by rfl) : PE X (.Call (.Name x p) (e :: es) [] pos) (tMake C sp [] E0 t) := by
  obtain ⟨f, fd, F, M1, g, b⟩ := M.ex
  exact pe_make M1 F hr hg g b .nil pass0 ha hdb he hpl
end

/-! ### heaps -/
/-- all tuples stay -/
def TK (H H' : Hp) : Prop := ∀ b ys, H b = some (.tup ys) → H' b = some (.tup ys)
theorem TK.refl {H : Hp} : TK H H := fun _ _ h => h
theorem TK.trans {H H1 H2 : Hp} (a : TK H H1) (b : TK H1 H2) : TK H H2 := fun c ys h => b c ys (a c ys h)
theorem TK.of {H H' : Hp} (s : Same H H') : TK H H' := fun b ys h => s b _ h
theorem TK.new {H : Hp} {p : Addr} {o : HO} (h : H p = none) : TK H (upd H p o) := fun b ys e => by rw [upd_ne (ne_of_none e h)]; exact e
theorem TK.mut {H : Hp} {p : Addr} {o u : HO} (h : H p = some u) (hu : ∀ ys, u ≠ .tup ys) : TK H (upd H p o) := fun b ys e => by
  rw [upd_ne fun z => by subst z; rw [h] at e; exact hu ys (Option.some.inj e)]; exact e
theorem TK.lst {H : Hp} {p : Addr} {o : HO} {xs : List V} (h : H p = some (.lst xs)) : TK H (upd H p o) := TK.mut h (fun _ z => nomatch z)
theorem _root_.L2.Same.new {H H1 : Hp} {p : Addr} {o : HO} (s : Same H H1) (h : H1 p = none) : Same H (upd H1 p o) := fun b u e => by
  have e1 := s b u e
  rw [upd_ne (ne_of_none e1 h)]; exact e1
theorem _root_.L2.Same.mut {H H1 : Hp} {p : Addr} {o : HO} (s : Same H H1) (h : H p = none) : Same H (upd H1 p o) := fun b u e => by
  rw [upd_ne (ne_of_none e h)]; exact s b u e
theorem _root_.L2.Same.upd {H : Hp} {p : Addr} {o : HO} (h : H p = none) : Same H (upd H p o) := Same.new (Same.refl H) h
theorem at_new {H : Hp} {b p : Addr} {o u : HO} (e : H b = some u) (h : H p = none) : upd H p o b = some u := by rw [upd_ne (ne_of_none e h)]; exact e
theorem at_mut {H : Hp} {b p : Addr} {o u v : HO} (e : H b = some u) (h : H p = some v) (d : u ≠ v) : upd H p o b = some u := by rw [upd_ne (ne_of e h d)]; exact e

/-! ### data -/
abbrev vN (n : Nat) : V := .int (n : Int)
/-- a tuple of numbers -/
def TI (H : Hp) (v : V) (l : List Nat) : Prop := ∃ a, v = .ref a ∧ H a = some (.tup (l.map vN))
/-- a tuple of tuples of numbers -/
def TT (H : Hp) (v : V) (ll : List (List Nat)) : Prop := ∃ a vs, v = .ref a ∧ H a = some (.tup vs) ∧ Paired (TI H) vs ll
theorem TI.keep {H H' : Hp} {v : V} {l : List Nat} (h : TI H v l) (k : TK H H') : TI H' v l := let ⟨a, e, x⟩ := h; ⟨a, e, k _ _ x⟩
theorem pmap {α β : Type} {F G : α → β → Prop} {l₁ : List α} {l₂ : List β} (h : Paired F l₁ l₂) (f : ∀ a b, F a b → G a b) : Paired G l₁ l₂ := Paired.mapP h f
theorem TT.keep {H H' : Hp} {v : V} {ll : List (List Nat)} (h : TT H v ll) (k : TK H H') : TT H' v ll := let ⟨a, vs, e, x, p⟩ := h; ⟨a, vs, e, k _ _ x, pmap p fun _ _ t => t.keep k⟩
theorem pget {α β : Type} {G : α → β → Prop} {l₁ : List α} {l₂ : List β} (h : Paired G l₁ l₂) {i : Nat} {a : α} (e : l₁[i]? = some a) : ∃ b, l₂[i]? = some b ∧ G a b := paired_get h e
theorem plen {α β : Type} {G : α → β → Prop} {l₁ : List α} {l₂ : List β} (h : Paired G l₁ l₂) : l₁.length = l₂.length := Paired.length h
theorem pget' {α β : Type} {G : α → β → Prop} {l₁ : List α} {l₂ : List β} (h : Paired G l₁ l₂) {i : Nat} {b : β} (e : l₂[i]? = some b) : ∃ a, l₁[i]? = some a ∧ G a b := by
  have hl := plen h
  have hi := (List.getElem?_eq_some_iff.mp e).1
  have ha : l₁[i]? = some l₁[i] := List.getElem?_eq_getElem (by omega)
  obtain ⟨b', e', g⟩ := pget h ha
  rw [e] at e'; cases e'
  exact ⟨_, ha, g⟩
theorem bl_t {Q : VK} {H : Hp} {p : Prop} [Decidable p] (hp : p) (h : Q (.bl true) H) : Q (.bl (decide p)) H := by rw [decide_eq_true hp]; exact h
theorem bl_f {Q : VK} {H : Hp} {p : Prop} [Decidable p] (hp : ¬ p) (h : Q (.bl false) H) : Q (.bl (decide p)) H := by rw [decide_eq_false hp]; exact h
theorem ifT {c : Prop} [Decidable c] {A B : Prop} (hc : c) (h : A) : if decide c = true then A else B := by rw [if_pos (decide_eq_true hc)]; exact h
theorem ifF {c : Prop} [Decidable c] {A B : Prop} (hc : ¬ c) (h : B) : if decide c = true then A else B := by rw [if_neg (by rw [decide_eq_false hc]; decide)]; exact h
theorem ifB {b : Bool} {A B : Prop} (h1 : b = true → A) (h2 : b = false → B) : if b = true then A else B := by
  cases b with
  | true => exact h1 rfl
  | false => exact h2 rfl
theorem yes {σ : St} {H : Hp} {F G : Hp → Prop} (h : F H) : tYes σ H (fun b H3 => if b = true then F H3 else G H3) := by show (if true = true then F H else G H); exact (if_pos rfl).mpr h
theorem sl8 {n : Nat} (h : n ≤ 1000) : n ≤ sizeLine := Nat.le_of_lt (small1000 h)
/-- the text's own constants -/
structure Cns (mg : Str → Option Value) : Prop where
  deeds : ∃ t, mg "MOST_DEEDS" = some (.int 4 t)
  states : ∃ t, mg "MOST_STATES" = some (.int 8 t)
  round : ∃ t, mg "MOST_ROUND" = some (.int 60 t)
  rest : ∃ t, mg "MOST_REST" = some (.int 6 t)
/-- the built-in names that the text leaves alone -/
structure Gls (mg : Str → Option Value) : Prop where
  isi : mg "isinstance" = none
  int : mg "int" = none
  bool : mg "bool" = none
  list : mg "list" = none
  tuple : mg "tuple" = none
  len : mg "len" = none
  all : mg "all" = none
  range : mg "range" = none
  enum : mg "enumerate" = none
  sorted : mg "sorted" = none
  zip : mg "zip" = none
  min : mg "min" = none
  max : mg "max" = none
  abs : mg "abs" = none
  repr : mg "repr" = none
end OWP

/-! ## OWH -/
/-! OWH: small facts: fields, dicts of numbers, arrangements. -/
namespace OWP
open PySem PySem.Spec PyProof.Rows L2 OWR OW
theorem lk0 {f : Str} {v : V} {fs : List (Str × V)} : (putF f v fs).lookup f = some v := by rw [lookup_putF, if_pos rfl]
theorem lk1 {f g : Str} {v : V} {fs : List (Str × V)} {x : Option V} (h : ¬ g = f) (e : fs.lookup g = x) : (putF f v fs).lookup g = x := by rw [lookup_putF, if_neg h]; exact e
theorem len_putF (f : Str) (v : V) : ∀ fs : List (Str × V), (putF f v fs).length ≤ fs.length + 1
  | [] => Nat.le_refl _
  | (g, x) :: r => by
    unfold putF
    split
    · simp
    · have := len_putF f v r; simp; omega
theorem putF_putF (f : Str) (x y : V) : ∀ fs : List (Str × V), putF f y (putF f x fs) = putF f y fs
  | [] => by show (if f = f then [(f, y)] else _) = [(f, y)]; rw [if_pos rfl]
  | (g, z) :: r => by
    show putF f y (if g = f then (g, x) :: r else (g, z) :: putF f x r) = (if g = f then (g, y) :: r else (g, z) :: putF f y r)
    by_cases h : g = f
    · rw [if_pos h, if_pos h]; show (if g = f then (g, y) :: r else _) = _; rw [if_pos h]
    · rw [if_neg h, if_neg h]; show (if g = f then _ else (g, z) :: putF f y (putF f x r)) = _; rw [if_neg h, putF_putF f x y r]
/-- the number at a place of a tuple of numbers -/
theorem at_vN {l : List Nat} {i : Nat} (h : i < l.length) : atI (l.map vN) ((i : Nat) : Int) = some (vN (l.getD i 0)) := by
  refine atI_nat ?_
  rw [List.getElem?_map, List.getElem?_eq_getElem h, getD_at h]; rfl
theorem at_V {xs : List V} {i : Nat} {v : V} (h : xs[i]? = some v) : atI xs ((i : Nat) : Int) = some v := atI_nat h
theorem map_vN_get {l : List Nat} {i : Nat} {x : V} (h : (l.map vN)[i]? = some x) : ∃ n, l[i]? = some n ∧ x = vN n := by
  rw [List.getElem?_map] at h
  cases q : l[i]? with
  | none => rw [q] at h; cases h
  | some n => rw [q] at h; cases h; exact ⟨n, rfl, rfl⟩
theorem vN_inj {a b : Nat} (h : vN a = vN b) : a = b := by injection h with h; omega
theorem perm_nat {ns : List Int} {F : List Nat} (h : ns.Perm (F.map fun n : Nat => (n : Int))) : ∃ l : List Nat, ns = l.map (fun n : Nat => (n : Int)) ∧ l.Perm F := by
  refine ⟨ns.map Int.toNat, ?_, ?_⟩
  · rw [List.map_map]
    have : ∀ x, x ∈ ns → ((fun n : Nat => (n : Int)) ∘ Int.toNat) x = x := fun x hx => by
      obtain ⟨n, _, rfl⟩ := List.mem_map.mp (h.mem_iff.mp hx)
      rfl
    exact ((List.map_congr_left (g := id) this).trans (List.map_id ns)).symm
  · have q := h.map Int.toNat
    rw [List.map_map] at q
    have e : F.map (Int.toNat ∘ fun n : Nat => (n : Int)) = F := List.map_id'' (fun _ => rfl) F
    rw [e] at q
    exact q
/-- a dict of numbers, all with one value -/
def kF (v : V) (F : List Nat) : List (Key × V) := F.map fun s : Nat => ((Sum.inl (s : Int) : Key), v)
theorem kF_val (v : V) : ∀ (F : List Nat) (s : Nat), valV (kF v F) (Sum.inl (s : Int) : Key) = if s ∈ F then some v else none
  | [], s => by simp [kF, valV]
  | a :: F, s => by
    have ih := kF_val v F s
    by_cases h : a = s
    · subst h
      rw [show kF v (a :: F) = ((Sum.inl (a : Int) : Key), v) :: kF v F from rfl, valV_pos rfl]
      simp
    · have hk : ¬ (Sum.inl (a : Int) : Key) = Sum.inl (s : Int) := fun z => h (by injection z with z; omega)
      rw [show kF v (a :: F) = ((Sum.inl (a : Int) : Key), v) :: kF v F from rfl, valV_neg hk, ih]
      have : s ≠ a := fun z => h z.symm
      simp [this]
theorem kF_put (v : V) {F : List Nat} {s : Nat} (h : s ∉ F) : putK (kF v F) (Sum.inl (s : Int) : Key) v = kF v (F ++ [s]) := by
  rw [putK_new v (by rw [kF_val, if_neg h])]
  unfold kF
  rw [List.map_append]; rfl
theorem kF_len (v : V) (F : List Nat) : (kF v F).length = F.length := by unfold kF; rw [List.length_map]
theorem kF_keys (v : V) (F : List Nat) : (kF v F).map (fun kv => kV kv.1) = F.map vN := by
  unfold kF; rw [List.map_map]; rfl
theorem last_of {α : Type} {xs : List α} (h : 0 < xs.length) : ∃ y, xs[xs.length - 1]? = some y ∧ xs = xs.dropLast ++ [y] := by
  have hne : xs ≠ [] := fun e => by rw [e] at h; simp at h
  refine ⟨xs.getLast hne, ?_, (List.dropLast_concat_getLast hne).symm⟩
  rw [List.getLast_eq_getElem, List.getElem?_eq_getElem (by omega)]
theorem map_inv {α β : Type} {f : α → β} {ys : List β} : ∀ {xs : List α} {y : β}, xs.map f = ys ++ [y] → ∃ zs z, xs = zs ++ [z] ∧ ys = zs.map f ∧ y = f z := fun {xs y} h => by
  have hl : 0 < xs.length := by
    have len := congrArg List.length h
    simp at len; omega
  obtain ⟨z, _, e⟩ := last_of hl
  rw [e, List.map_append] at h
  have := List.append_inj' h rfl
  refine ⟨_, z, e, this.1.symm, ?_⟩
  have q := this.2
  simp at q
  exact q.symm
/-! readings named, for the blocks of comprehensions (K written out) -/
def rTupOf (K : PySem.W.Frag) : List V → Hp → VK → Prop := fun xs H Q => ∃ p ys, xs = [.ref p] ∧ ((SqL K H p ys ∧ ∀ l, H l = none → Q (.ref l) (upd H l (.tup ys))) ∨ (SqT K H p ys ∧ Q (.ref p) H))
theorem ct_tuple {X : Cx} {K : PySem.W.Frag} (hK : X.K = K) : CallR X (.type "tuple") (rTupOf K) := by subst hK; exact call_tuple_of
def rLenOf (K : PySem.W.Frag) : List V → Hp → VK → Prop := fun xs H Q => ∃ p ys, xs = [.ref p] ∧ (SqL K H p ys ∨ SqT K H p ys) ∧ Q (.int ys.length) H
theorem cb_len {X : Cx} {K : PySem.W.Frag} (hK : X.K = K) : CallR X (.builtin "len") (rLenOf K) := by subst hK; exact call_len_seq
theorem ix_tupK {X : Cx} {K : PySem.W.Frag} (hK : X.K = K) : IxR X (rIxT K) := by subst hK; exact ix_tup
theorem ix_listK {X : Cx} {K : PySem.W.Frag} (hK : X.K = K) : IxR X (rIxL K) := by subst hK; exact ix_list
theorem op_inK {X : Cx} {K : PySem.W.Frag} (hK : X.K = K) : OpR X (compareOp .In) (rIn K false) := by subst hK; exact op_in_seq
theorem op_notInK {X : Cx} {K : PySem.W.Frag} (hK : X.K = K) : OpR X (compareOp .NotIn) (rIn K true) := by subst hK; exact op_notIn_seq
theorem op_catAK {X : Cx} {K : PySem.W.Frag} (hK : X.K = K) : OpR X (binaryOp .Add) (rCatA K) := by subst hK; exact op_catA
end OWP

/-! ## OWT -/
/-! OWT: things (states, or pairs of a state and a standing) as values and keys. -/
namespace OWP
open PySem PySem.Spec PyProof.Rows L2 OWR OW PySem.W
/-! keys that are turned into others, no two into one -/
section
variable {κ τ : Type} [DecidableEq κ] [DecidableEq τ]
def mapK (e : τ → κ) (kvs : List (τ × V)) : List (κ × V) := kvs.map fun p => (e p.1, p.2)
theorem mapK_val {e : τ → κ} (inj : ∀ a b, e a = e b → a = b) : ∀ (kvs : List (τ × V)) (t : τ), valV (mapK e kvs) (e t) = valV kvs t
  | [], _ => rfl
  | p :: r, t => by
    by_cases h : p.1 = t
    · rw [show mapK e (p :: r) = (e p.1, p.2) :: mapK e r from rfl, valV_pos (show (e p.1, p.2).1 = e t by rw [h]), valV_pos h]
    · rw [show mapK e (p :: r) = (e p.1, p.2) :: mapK e r from rfl, valV_neg (show ¬ (e p.1, p.2).1 = e t from fun z => h (inj _ _ z)), valV_neg h, mapK_val inj r t]
theorem mapK_put {e : τ → κ} (inj : ∀ a b, e a = e b → a = b) (kvs : List (τ × V)) (t : τ) (x : V) : putK (mapK e kvs) (e t) x = mapK e (putK kvs t x) := by
  have h : ∀ r : List (τ × V), ((mapK e r).any fun kv => decide (kv.1 = e t)) = (r.any fun kv => decide (kv.1 = t)) := by
    intro r
    rw [valV_any, valV_any, mapK_val inj]
  unfold putK
  rw [h]
  split
  · unfold mapK
    rw [List.map_map (l := kvs), List.map_map]
    refine List.map_congr_left (fun p _ => ?_)
    show (if e p.1 = e t then (e p.1, x) else (e p.1, p.2)) = _
    by_cases q : p.1 = t
    · rw [if_pos (by rw [q])]; show _ = (e (if p.1 = t then (p.1, x) else p).1, (if p.1 = t then (p.1, x) else p).2); rw [if_pos q]
    · rw [if_neg fun z => q (inj _ _ z)]; show _ = (e (if p.1 = t then (p.1, x) else p).1, (if p.1 = t then (p.1, x) else p).2); rw [if_neg q]
  · unfold mapK; rw [List.map_append]; rfl
theorem mapK_len (e : τ → κ) (kvs : List (τ × V)) : (mapK e kvs).length = kvs.length := by unfold mapK; rw [List.length_map]
end
/-- what setdefault asks of a dict and a key -/
def SetdAt (H : Hp) (a : Addr) (y : V) (o : Option V) : Prop :=
  (∃ kvs k, H a = some (.dK kvs) ∧ y = kV k ∧ o = valV kvs k ∧ kvs.length < sizeLine) ∨ ∃ kvs k b, H a = some (.dT kvs) ∧ y = .ref b ∧ H b = some (.tup (k.map kV)) ∧ o = valV kvs k ∧ kvs.length < sizeLine
/-- list(d): the keys, in their order -/
def rKeysA {τ : Type} (rep : Hp → V → τ → Prop) (dic : List (τ × V) → HO) : List V → Hp → VK → Prop := fun xs H Q => ∃ a kvs, xs = [V.ref a] ∧ H a = some (dic kvs) ∧ ∀ q ks, H q = none → Paired (rep H) ks (kvs.map (·.1)) → Q (.ref q) (upd H q (.lst ks))
structure Thg (τ : Type) [DecidableEq τ] where
  rep : Hp → V → τ → Prop
  dic : List (τ × V) → HO
  dat : τ → PyData
  keep : ∀ {H H' : Hp} {v : V} {t : τ}, TK H H' → rep H v t → rep H' v t
  get : ∀ {H : Hp} {a : Addr} {kvs : List (τ × V)} {v : V} {t : τ}, H a = some (dic kvs) → rep H v t → DGet H a v (valV kvs t)
  put : ∀ {H : Hp} {a : Addr} {kvs : List (τ × V)} {v x : V} {t : τ}, H a = some (dic kvs) → rep H v t → kvs.length < sizeLine → DPut H a v x (upd H a (dic (putK kvs t x)))
  putI : ∀ {H H' : Hp} {a : Addr} {kvs : List (τ × V)} {v x : V} {t : τ}, H a = some (dic kvs) → rep H v t → DPut H a v x H' → H' = upd H a (dic (putK kvs t x))
  setd : ∀ {H : Hp} {a : Addr} {kvs : List (τ × V)} {v : V} {t : τ}, H a = some (dic kvs) → rep H v t → kvs.length < sizeLine → SetdAt H a v (valV kvs t)
  isD : ∀ {H : Hp} {a : Addr} {kvs : List (τ × V)}, H a = some (dic kvs) → IsD H a
  e0 : E0 (dic [])
  ntup : ∀ kvs ys, dic kvs ≠ .tup ys
  nlst : ∀ kvs ys, dic kvs ≠ .lst ys
  nins : ∀ kvs C dx fs, dic kvs ≠ .ins C dx fs
  mutb : ∀ kvs, Mut (some (dic kvs))
  vals : ∀ kvs, ValsOf (dic kvs) (kvs.map (·.2))
  lst : ∀ {X : Cx}, X.calm = true → CallR X (.type "list") (rKeysA rep dic)
  dp : ∀ {K : PySem.W.Frag} {H : Hp} {v : V} {t : τ}, rep H v t → Dp K H v (dat t)
  shaped : ∀ t, SeqAt.shaped (dat t) = true
  eqv : ∀ a b, PyData.eqv (dat a) (dat b) = decide (a = b)
  alike : ∀ a b, PySem.W.alike (dat a) (dat b) = true
  depth : ∀ t, (dat t).depth ≤ 1
  srt : ∀ ts : List τ, PySem.W.Sortable (ts.map dat)
section
variable {τ : Type} [DecidableEq τ]
theorem Thg.tk (G : Thg τ) {H : Hp} {a : Addr} {kvs : List (τ × V)} {o : HO} (h : H a = some (G.dic kvs)) : TK H (upd H a o) := TK.mut h (G.ntup kvs)
end
def keyN (n : Nat) : Key := Sum.inl (n : Int)
theorem keyN_inj (a b : Nat) (h : keyN a = keyN b) : a = b := by unfold keyN at h; injection h with h; omega
/-- states -/
def thN : Thg Nat where
  rep := fun _ v n => v = vN n
  dic := fun kvs => .dK (mapK keyN kvs)
  dat := fun n => .int n
  keep := fun _ h => h
  get := fun {H a kvs v t} h r => by
    subst r
    have := DGet.k (k := keyN t) h
    rw [mapK_val keyN_inj] at this
    exact this
  put := fun {H a kvs v x t} h r hl => by
    subst r
    have := DPut.k (k := keyN t) (v := x) h (by rw [mapK_len]; exact hl)
    rw [mapK_put keyN_inj] at this
    exact this
  putI := fun {H H' a kvs v x t} h r p => by
    subst r
    rcases p with ⟨kvs', k, e, ey, _, eH⟩ | ⟨kvs', k, b, e, ey, eb, _, eH⟩
    · rw [h] at e
      cases e
      have ek : k = keyN t := kV_inj (show kV k = kV (keyN t) from ey.symm)
      rw [eH, ek, mapK_put keyN_inj]
    · rw [h] at e; cases e
  setd := fun {H a kvs v t} h r hl => by
    subst r
    exact .inl ⟨_, keyN t, h, rfl, (mapK_val keyN_inj kvs t).symm, by rw [mapK_len]; exact hl⟩
  isD := fun h => .inl ⟨_, .inl h⟩
  e0 := .k
  ntup := fun _ _ z => nomatch z
  nlst := fun _ _ z => nomatch z
  nins := fun _ _ _ _ z => nomatch z
  mutb := fun _ => True.intro
  vals := fun kvs => .inl ⟨_, rfl, by unfold mapK; rw [List.map_map]; rfl⟩
  lst := fun {X} hc => by
    rintro pins s σ H _ us Q I r ⟨a, kvs, rfl, ha, q⟩
    refine call_list_dK hc pins s σ H _ us Q I r ⟨a, _, rfl, ha, fun p hp => ?_⟩
    refine q p _ hp ?_
    have : ∀ l : List (Nat × V), Paired (fun (v : V) (n : Nat) => v = vN n) ((mapK keyN l).map fun kv => kV kv.1) (l.map (·.1)) := by
      intro l
      induction l with
      | nil => exact .nil
      | cons p r ih => exact .cons rfl ih
    exact this kvs
  dp := fun h => by rw [h]; exact .int _
  shaped := fun t => by simp [SeqAt.shaped, PyData.canLay0, PyData.depth]
  eqv := fun a b => by
    by_cases h : a = b
    · subst h; simp [PyData.eqv]
    · have : ¬ (a : Int) = b := by omega
      simp [PyData.eqv, h, this]
  alike := fun _ _ => by simp [PySem.W.alike]
  depth := fun _ => by simp [PyData.depth]
  srt := fun ts => .inr fun d hd => by
    obtain ⟨n, _, rfl⟩ := List.mem_map.mp hd
    exact ⟨(fun z => nomatch z), fun _ z => nomatch z⟩
def keyP (p : Nat × Nat) : List Key := [keyN p.1, keyN p.2]
theorem keyP_inj (a b : Nat × Nat) (h : keyP a = keyP b) : a = b := by
  unfold keyP at h
  injection h with h1 h2
  injection h2 with h2 _
  exact Prod.ext (keyN_inj _ _ h1) (keyN_inj _ _ h2)
def repP (H : Hp) (v : V) (p : Nat × Nat) : Prop := ∃ q, v = .ref q ∧ H q = some (.tup [vN p.1, vN p.2])
theorem repP_key {H : Hp} {v : V} {p : Nat × Nat} (h : repP H v p) : ∃ q, v = .ref q ∧ H q = some (.tup ((keyP p).map kV)) := h
/-- pairs -/
def thP : Thg (Nat × Nat) where
  rep := repP
  dic := fun kvs => .dT (mapK keyP kvs)
  dat := fun p => .tuple [.int p.1, .int p.2]
  keep := fun k ⟨q, e, h⟩ => ⟨q, e, k _ _ h⟩
  get := fun {H a kvs v t} h r => by
    obtain ⟨q, rfl, hq⟩ := repP_key r
    have := DGet.t (k := keyP t) h hq
    rw [mapK_val keyP_inj] at this
    exact this
  put := fun {H a kvs v x t} h r hl => by
    obtain ⟨q, rfl, hq⟩ := repP_key r
    have := DPut.t (k := keyP t) (v := x) h hq (by rw [mapK_len]; exact hl)
    rw [mapK_put keyP_inj] at this
    exact this
  putI := fun {H H' a kvs v x t} h r p => by
    obtain ⟨q, rfl, hq⟩ := repP_key r
    rcases p with ⟨kvs', k, e, ey, _, eH⟩ | ⟨kvs', k, b, e, ey, eb, _, eH⟩
    · rw [h] at e; cases e
    · rw [h] at e
      cases e
      cases ey
      rw [hq] at eb
      have ek : k = keyP t := kVs_inj (by injection (Option.some.inj eb) with z; exact z.symm)
      rw [eH, ek, mapK_put keyP_inj]
  setd := fun {H a kvs v t} h r hl => by
    obtain ⟨q, rfl, hq⟩ := repP_key r
    exact .inr ⟨_, keyP t, q, h, rfl, hq, (mapK_val keyP_inj kvs t).symm, by rw [mapK_len]; exact hl⟩
  isD := fun h => .inr ⟨_, .inl h⟩
  e0 := .t
  ntup := fun _ _ z => nomatch z
  nlst := fun _ _ z => nomatch z
  nins := fun _ _ _ _ z => nomatch z
  mutb := fun _ => True.intro
  vals := fun kvs => .inr ⟨_, rfl, by unfold mapK; rw [List.map_map]; rfl⟩
  lst := fun {X} hc => by
    rintro pins s σ H _ us Q I r ⟨a, kvs, rfl, ha, q⟩
    refine call_list_dT hc pins s σ H _ us Q I r ⟨a, _, rfl, .inl ha, fun p bs hp hk => ?_⟩
    refine q p _ hp ?_
    have : ∀ (l : List ((Nat × Nat) × V)) (bs : List Addr), IsKeys H (mapK keyP l) bs → Paired (repP H) (bs.map V.ref) (l.map (·.1)) := by
      intro l
      induction l with
      | nil => intro bs h; cases h; exact .nil
      | cons p r ih => intro bs h; cases h with | cons h1 h2 => exact .cons ⟨_, rfl, h1⟩ (ih _ h2)
    exact this kvs bs hk
  dp := fun {K H v t} ⟨q, e, h⟩ => by rw [e]; exact .tup (.inl (.inl h)) (.cons (.int _) (.cons (.int _) .nil))
  shaped := fun t => by simp [SeqAt.shaped, PyData.canLay0, PyData.canLayAll0, PyData.depth, PyData.depthAll]
  eqv := fun a b => by
    have h1 : ∀ x y : Nat, decide ((x : Int) = y) = decide (x = y) := fun x y => by
      by_cases h : x = y
      · subst h; simp
      · have : ¬ (x : Int) = y := by omega
        simp [h, this]
    simp only [PyData.eqv, PyData.eqvAll, Bool.and_true]
    obtain ⟨a1, a2⟩ := a
    obtain ⟨b1, b2⟩ := b
    by_cases h1 : a1 = b1
    · by_cases h2 : a2 = b2
      · subst h1 h2; simp
      · have : ¬ (a2 : Int) = b2 := by omega
        simp [h2, this]
    · have : ¬ (a1 : Int) = b1 := by omega
      simp [h1, this]
  alike := fun _ _ => by simp [PySem.W.alike, PySem.W.alikeAll]
  depth := fun _ => by simp [PyData.depth, PyData.depthAll]
  srt := fun ts => .inl fun d hd => by
    obtain ⟨n, _, rfl⟩ := List.mem_map.mp hd
    exact ⟨_, _, rfl⟩
end OWP

/-! ## W1 -/
/-! W1: words; counters. -/
namespace OWP
open PySem PySem.Spec PyProof.Rows L2 OWR
section
variable {P : Program} {w : World} {base : Heap} {K : PySem.W.Frag} {mg : Str → Option Value}
def spInt : Sp := fun vs H Q _ => ∃ n : Int, vs = [.int n] ∧ Q (.bl true) H
theorem scIsInt : FnScope ["value"] ["value"] (defScope (topS 12)) := ⟨rfl, rfl, rfl, by decide +kernel, rfl, by decide +kernel, by decide +kernel⟩
theorem ok_is_integer {f : Addr} {fd : FuncData} (F : Fun K "is_integer" "is_integer" (topS 12) f fd) (Z : Gls mg) : FnOk P w K mg base CX0 1 f fd ["value"] spInt := by
  refine F.ok scIsInt (fun vs H Q E h => ?_) (fun cdv A outer s H vs Q E hr h => ?_)
  · obtain ⟨n, rfl, _⟩ := h; rfl
  · obtain ⟨n, rfl, k⟩ := h
    refine ⟨_, pss_one (ps_ret (pe_and (pe_callB call_isi (by rfl) Z.isi (by decide +kernel) (pa_cons (pv 0) (pa_cons (pe_bltn (v := .ty "int") (by rfl) Z.int (by decide +kernel) rfl) pa_nil)))
      (pe_one (pe_not (pe_callB call_isi (by rfl) Z.isi (by decide +kernel) (pa_cons (pv 0) (pa_cons (pe_bltn (v := .ty "bool") (by rfl) Z.bool (by decide +kernel) rfl) pa_nil))))))), ?_⟩
    refine ⟨_, rfl, _, _, _, _, true, rfl, .ty _, .base (.int n), kit_ty (by decide +kernel), true, rfl, ?_⟩
    refine iteT ⟨_, rfl, _, _, _, _, false, rfl, .ty _, .base (.int n), kit_ty (by decide +kernel), false, rfl, ?_⟩
    exact k
/-- is_number: of an integer whether it is from 0 on -/
def spNum : Sp := fun vs H Q _ => ∃ n : Int, vs = [.int n] ∧ 0 ≤ n ∧ Q (.bl true) H
theorem scIsNum : FnScope ["value"] ["value"] (defScope (topS 13)) := ⟨rfl, rfl, rfl, by decide +kernel, rfl, by decide +kernel, by decide +kernel⟩
theorem ok_is_number {f : Addr} {fd : FuncData} (F : Fun K "is_number" "is_number" (topS 13) f fd) (c : Cal P w K mg base "is_integer" 1 ["value"] spInt) : FnOk P w K mg base CX0 2 f fd ["value"] spNum := by
  refine F.ok scIsNum (fun vs H Q E h => ?_) (fun cdv A outer s H vs Q E hr h => ?_)
  · obtain ⟨n, rfl, _⟩ := h; rfl
  · obtain ⟨n, rfl, h0, k⟩ := h
    refine ⟨_, pss_one (ps_ret (pe_and (pe_cal c hr (by rfl) (pa_cons (pv 0) pa_nil)) (pe_one (pe_cmpR op_ge (pv 0) pe_int (nomark _))))), ?_⟩
    refine ⟨_, rfl, n, rfl, true, rfl, ?_⟩
    exact iteT ⟨_, rfl, _, _, rfl, rfl, bl_t h0 k⟩
/-- is_below: of a number below the bound -/
def spBelow : Sp := fun vs H Q _ => ∃ n m : Int, vs = [.int n, .int m] ∧ 0 ≤ n ∧ n < m ∧ Q (.bl true) H
theorem scIsBelow : FnScope ["value", "most"] ["value", "most"] (defScope (topS 14)) := ⟨rfl, rfl, rfl, by decide +kernel, rfl, by decide +kernel, by decide +kernel⟩
theorem ok_is_below {f : Addr} {fd : FuncData} (F : Fun K "is_below" "is_below" (topS 14) f fd) (c : Cal P w K mg base "is_number" 2 ["value"] spNum) : FnOk P w K mg base CX0 3 f fd ["value", "most"] spBelow := by
  refine F.ok scIsBelow (fun vs H Q E h => ?_) (fun cdv A outer s H vs Q E hr h => ?_)
  · obtain ⟨n, m, rfl, _⟩ := h; rfl
  · obtain ⟨n, m, rfl, h0, h1, k⟩ := h
    refine ⟨_, pss_one (ps_ret (pe_and (pe_cal c hr (by rfl) (pa_cons (pv 0) pa_nil)) (pe_one (pe_cmpR op_lt (pv 0) (pv 1) (nomark _))))), ?_⟩
    refine ⟨_, rfl, n, rfl, h0, true, rfl, ?_⟩
    exact iteT ⟨_, rfl, _, rfl, _, _, rfl, rfl, bl_t h1 k⟩
def spWithin : Sp := fun vs H Q _ => ∃ n a b : Int, vs = [.int n, .int a, .int b] ∧ a ≤ n ∧ n ≤ b ∧ Q (.bl true) H
theorem scIsWithin : FnScope ["value", "least", "most"] ["value", "least", "most"] (defScope (topS 15)) := ⟨rfl, rfl, rfl, by decide +kernel, rfl, by decide +kernel, by decide +kernel⟩
theorem ok_is_within {f : Addr} {fd : FuncData} (F : Fun K "is_within" "is_within" (topS 15) f fd) (c : Cal P w K mg base "is_integer" 1 ["value"] spInt) : FnOk P w K mg base CX0 2 f fd ["value", "least", "most"] spWithin := by
  refine F.ok scIsWithin (fun vs H Q E h => ?_) (fun cdv A outer s H vs Q E hr h => ?_)
  · obtain ⟨n, a, b, rfl, _⟩ := h; rfl
  · obtain ⟨n, a, b, rfl, h0, h1, k⟩ := h
    refine ⟨_, pss_one (ps_ret (pe_and (pe_cal c hr (by rfl) (pa_cons (pv 0) pa_nil)) (pe_one (pe_chain op_le op_le (pv 1) (pv 0) (pv 2))))), ?_⟩
    refine ⟨_, rfl, n, rfl, true, rfl, ?_⟩
    refine iteT ⟨_, rfl, _, rfl, _, _, rfl, rfl, _, rfl, ?_⟩
    exact ifT h0 ⟨_, rfl, _, _, rfl, rfl, bl_t h1 k⟩
/-- is_sequence: of a list or tuple -/
def spSeq (K : PySem.W.Frag) : Sp := fun vs H Q _ => ∃ x t, vs = [x] ∧ TyX K H x t ∧ (t = .type "list" ∨ t = .type "tuple") ∧ ∀ H', Same H H' → Q (.bl true) H'
theorem scIsSeq : FnScope ["value"] ["value"] (defScope (topS 16)) := ⟨rfl, rfl, rfl, by decide +kernel, rfl, by decide +kernel, by decide +kernel⟩
theorem TyX.keep {H H' : Hp} {x : V} {t : Value} (s : Same H H') (ty : TyX K H x t) (ht : t = .type "list" ∨ t = .type "tuple") : TyX K H' x t := by
  cases ty with
  | base h =>
    cases h with
    | non => exact .base .non
    | bl b => exact .base (.bl b)
    | int i => exact .base (.int i)
    | str z => exact .base (.str z)
    | flt z => exact .base (.flt z)
    | lst e => exact .base (.lst (s _ _ e))
    | frz e => exact .base (.frz (s _ _ e))
    | tup e => exact .base (.tup (s _ _ e))
    | dK e => exact .base (.dK (s _ _ e))
    | dT e => exact .base (.dT (s _ _ e))
    | ins e c h1 h2 h3 h4 => exact .base (.ins (s _ _ e) c h1 h2 h3 h4)
  | byt b => exact .byt b
  | set e => exact .set (s _ _ e)
  | kList e c => exact .kList e c
  | kTuple e c => exact .kTuple e c
  | kDict e c => exact .kDict e c
  | fTuple e => exact .fTuple (s _ _ e)
  | fDict e => exact .fDict (s _ _ e)
theorem ok_is_sequence {f : Addr} {fd : FuncData} (F : Fun K "is_sequence" "is_sequence" (topS 16) f fd) (Z : Gls mg) : FnOk P w K mg base CX0 1 f fd ["value"] (spSeq K) := by
  refine F.ok scIsSeq (fun vs H Q E h => ?_) (fun cdv A outer s H vs Q E hr h => ?_)
  · obtain ⟨x, t, rfl, _⟩ := h; rfl
  · obtain ⟨x, t, rfl, ty, ht, k⟩ := h
    refine ⟨_, pss_one (ps_ret (pe_callB call_isiT (by rfl) Z.isi (by decide +kernel) (pa_cons (pv 0) (pa_cons (pe_tup (pa_cons (pe_bltn (v := .ty "list") (by rfl) Z.list (by decide +kernel) rfl) (pa_cons (pe_bltn (v := .ty "tuple") (by rfl) Z.tuple (by decide +kernel) rfl) pa_nil))) pa_nil)))), ?_⟩
    refine ⟨_, rfl, (by show 2 ≤ sizeLine; decide), fun p hp => ?_⟩
    refine ⟨x, p, _, t, [.type "list", .type "tuple"], true, rfl, upd_same, .cons (.ty _) (.cons (.ty _) .nil), TyX.keep (Same.upd hp) ty ht, ?_, k _ (Same.upd hp)⟩
    rcases ht with rfl | rfl
    · exact kitAny_cons (kit_ty (b := "list") (r := true) (by decide +kernel)) (fun z => nomatch z) (fun _ => rfl)
    · exact kitAny_cons (kit_ty (b := "list") (r := false) (by decide +kernel)) (fun _ => kitAny_cons (kit_ty (b := "tuple") (r := true) (by decide +kernel)) (fun z => nomatch z) (fun _ => rfl)) (fun z => nomatch z)
end
end OWP

/-! ## W2 -/
/-! W2: counters. -/
namespace OWP
open PySem PySem.Spec PyProof.Rows L2 OWR
section
variable {P : Program} {w : World} {base : Heap} {K : PySem.W.Frag} {mg : Str → Option Value}
/-- what a list holds, and a tuple: whichever stands at a -/
def spRounds : Sp := fun vs H Q _ => ∃ (a : Addr) (R : List Nat), vs = [.ref a] ∧ H a = some (.lst (R.map vN)) ∧ 1 ≤ R.length ∧ R.length ≤ 4 ∧ (∀ r, r ∈ R → r ≤ 60) ∧ ∀ p H', Same H H' → H' p = some (.tup (R.map vN)) → Q (.ref p) H'
theorem scRounds : FnScope ["value", "number"] ["value"] (defScope (topS 18)) := ⟨rfl, rfl, rfl, by decide +kernel, rfl, by decide +kernel, by decide +kernel⟩
theorem ok_check_rounds {f : Addr} {fd : FuncData} (F : Fun K "check_rounds" "check_rounds" (topS 18) f fd) (Z : Gls mg) (C : Cns mg) (cs : Cal P w K mg base "is_sequence" 1 ["value"] (spSeq K)) (cw : Cal P w K mg base "is_within" 2 ["value", "least", "most"] spWithin) :
    FnOk P w K mg base CX0 3 f fd ["value"] spRounds := by
  refine F.ok scRounds (fun vs H Q E h => ?_) (fun cdv A outer s H vs Q E hr h => ?_)
  · obtain ⟨a, R, rfl, _⟩ := h; rfl
  · obtain ⟨a, R, rfl, ha, h1, h4, h60, k⟩ := h
    obtain ⟨t4, g4⟩ := C.deeds
    obtain ⟨t60, g60⟩ := C.round
    have hr1 : Room 1 _ := Room.mono hr (by decide)
    refine ⟨_, pss_cons (ps_if (PW.pt (pw_or (pt_not (pt_val (pe_cal cs hr1 (by rfl) (pa_cons (pv 0) pa_nil)))) (pw_or1 (pt_not (pt_chain op_le op_le pe_int (pe_callB call_len_seq (by rfl) Z.len (by decide +kernel) (pa_cons (pv 0) pa_nil)) (pe_num (by rfl) g4)))))) pss_never pss_nil)
      (pss_cons (ps_if (pt_not (pt_val (pe_callB (cr_all rfl) (by rfl) Z.all (by decide +kernel) (pa_cons
          (pe_lc (own := [("number", 1)]) (g := gName 1) (tt := tYes) rfl scRounds.nd (pi_list (pv 0)) (blkOk_by (N := ["value", "number"]) (sc := defScope (topS 18)) (by decide +kernel)) (fun _ _ _ _ _ => pg_name (i := 1) scRounds.nd rfl (Or.inl rfl)) (fun _ _ _ _ _ => pts_nil)
            (fun _ _ _ _ _ => pe_cal cw hr (by rfl) (pa_cons (pv 1) (pa_cons pe_int (pa_cons (pe_num (by rfl) g60) pa_nil))))) pa_nil)))) pss_never pss_nil)
      (pss_one (ps_ret (pe_callTy call_tuple_of (by rfl) Z.tuple (by decide +kernel) (pa_cons (pv 0) pa_nil))))), ?_⟩
    refine ⟨_, rfl, .ref a, _, rfl, .base (.lst ha), .inl rfl, fun H1 s1 => ⟨true, rfl, iteF ?_⟩⟩
    have ha1 := s1 _ _ ha
    refine ⟨_, rfl, a, _, rfl, .inl (.of ha1), _, _, rfl, rfl, _, rfl, ?_⟩
    rw [List.length_map]
    refine ifT (by omega) ⟨_, _, rfl, rfl, _, rfl, ?_⟩
    rw [decide_eq_true (show ((R.length : Nat) : Int) ≤ 4 by omega)]
    refine iteF ?_
    -- all([..])
    refine ⟨_, rfl, a, rfl, ⟨_, .of ha1⟩, fun D hD => ?_⟩
    refine lc_list (K := K) (a := a) (xs := R.map vN) (fun i H2 => Same H1 H2 ∧ H2 D = some (.lst (List.replicate i (V.bl true)))) ⟨Same.upd hD, upd_same⟩ (fun i H2 _ q => .of (q.1 _ _ ha1)) ?_ ?_
    · rintro i x H2 hx ⟨s2, d2⟩
      rw [List.getElem?_map] at hx
      cases hq : R[i]? with
      | none => rw [hq] at hx; cases hx
      | some r =>
        rw [hq] at hx
        cases hx
        have hil : i < R.length := (List.getElem?_eq_some_iff.mp hq).1
        refine ⟨rfl, yes ?_⟩
        refine ⟨_, rfl, _, _, _, rfl, by show (0 : Int) ≤ (r : Int); omega, by have := h60 r (List.mem_of_getElem? hq); omega, _, d2, by rw [List.length_replicate]; exact small1000 (by omega), s2.mut hD, ?_⟩
        rw [upd_same, ← List.replicate_succ']
    · rintro H2 ⟨s2, d2⟩
      refine ⟨D, List.replicate (R.map vN).length true, rfl, .of (by rw [d2, List.map_replicate]), ?_⟩
      refine ⟨_, rfl, ?_⟩
      have e : (List.replicate (R.map vN).length true).all id = true := by simp
      rw [e]
      refine iteF ?_
      have ha2 := s2 _ _ ha1
      exact ⟨_, rfl, a, _, rfl, .inl ⟨.of ha2, fun l hl => k l _ (Same.new (s1.trans s2) hl) upd_same⟩⟩
end
end OWP

/-! ## W3 -/
/-! W3: counters made; machines made. -/
namespace OWP
open PySem PySem.Spec PyProof.Rows L2 OWR OW
section
variable {P : Program} {w : World} {base : Heap} {K : PySem.W.Frag} {mg : Str → Option Value}
/-- the written empty tuple (a default) -/
def EmptyK (K : PySem.W.Frag) (a : Addr) : Prop := ∃ o n, K.lookup a = some o ∧ o.cls = .type "tuple" ∧ o.data = .seq #[] n
theorem EmptyK.sq {a : Addr} (e : EmptyK K a) {H : Hp} : SqT K H a [] := let ⟨o, n, l, c, d⟩ := e; .inr ⟨o, #[], n, l, c, d, Nat.zero_le _, .nil⟩
def spRests (K : PySem.W.Frag) : Sp := fun vs H Q _ => ∃ (a : Addr) (D : Nat), vs = [.ref a, vN D] ∧ EmptyK K a ∧ 1 ≤ D ∧ D ≤ 4 ∧ ∀ p H', Same H H' → Q (.ref p) H'
theorem scRests : FnScope ["value", "many", "number"] ["value", "many"] (defScope (topS 19)) := ⟨rfl, rfl, rfl, by decide +kernel, rfl, by decide +kernel, by decide +kernel⟩
theorem ok_check_rests {f : Addr} {fd : FuncData} (F : Fun K "check_rests" "check_rests" (topS 19) f fd) (Z : Gls mg) (C : Cns mg) (cs : Cal P w K mg base "is_sequence" 1 ["value"] (spSeq K)) (cw : Cal P w K mg base "is_within" 2 ["value", "least", "most"] spWithin) :
    FnOk P w K mg base CX0 3 f fd ["value", "many"] (spRests K) := by
  refine F.ok scRests (fun vs H Q E h => ?_) (fun cdv A outer s H vs Q E hr h => ?_)
  · obtain ⟨a, D, rfl, _⟩ := h; rfl
  · obtain ⟨a, D, rfl, ha, h1, h4, k⟩ := h
    obtain ⟨t6, g6⟩ := C.rest
    have hr1 : Room 1 _ := Room.mono hr (by decide)
    refine ⟨_, pss_cons (ps_if (PW.pt (pw_or (pt_not (pt_val (pe_cal cs hr1 (by rfl) (pa_cons (pv 0) pa_nil)))) (pw_or1 (pt_cmpR op_notIn_seq (pe_callB call_len_seq (by rfl) Z.len (by decide +kernel) (pa_cons (pv 0) pa_nil)) (pe_tup (pa_cons pe_int (pa_cons (pv 1) pa_nil))) (by rfl))))) pss_never pss_nil)
      (pss_cons (ps_if (pt_not (pt_val (pe_callB (cr_all rfl) (by rfl) Z.all (by decide +kernel) (pa_cons
          (pe_lc (own := [("number", 2)]) (g := gName 2) (tt := tYes) rfl scRests.nd (pi_tup (pv 0)) (blkOk_by (N := ["value", "many", "number"]) (sc := defScope (topS 19)) (by decide +kernel)) (fun _ _ _ _ _ => pg_name (i := 2) scRests.nd rfl (Or.inl rfl)) (fun _ _ _ _ _ => pts_nil)
            (fun _ _ _ _ _ => pe_cal cw hr (by rfl) (pa_cons (pv 2) (pa_cons pe_int (pa_cons (pe_num (by rfl) g6) pa_nil))))) pa_nil)))) pss_never pss_nil)
      (pss_one (ps_ret (pe_ifExp (pt_cmpR op_gt (pe_callB call_len_seq (by rfl) Z.len (by decide +kernel) (pa_cons (pv 0) pa_nil)) pe_int (nomark _))
        (pe_callTy call_tuple_of (by rfl) Z.tuple (by decide +kernel) (pa_cons (pv 0) pa_nil)) (pe_op op_repA (pe_tup (pa_cons pe_int pa_nil)) (pv 1)))))), ?_⟩
    obtain ⟨o, n, l, c, d⟩ := id ha
    refine ⟨_, rfl, .ref a, _, rfl, .kTuple l c, .inr rfl, fun H1 s1 => ⟨true, rfl, iteF ?_⟩⟩
    refine ⟨_, rfl, a, _, rfl, .inr ha.sq, _, rfl, (by show 2 ≤ sizeLine; decide), fun p hp => ?_⟩
    refine ⟨p, _, rfl, .inr (.inl (.inl upd_same)), rfl, rfl, _, rfl, ?_⟩
    have s2 : Same H _ := s1.new (o := .tup [.int 0, vN D]) hp
    refine iteF ?_
    refine ⟨_, rfl, a, rfl, ⟨_, ha.sq⟩, fun D1 hD => ?_⟩
    refine lc_tup (K := K) (a := a) (xs := []) (fun i H2 => Same H H2 ∧ H2 D1 = some (.lst [])) ⟨s2.new hD, upd_same⟩ (fun i H2 _ q => ha.sq) (fun i x H2 hx _ => absurd hx (by simp)) ?_
    rintro H2 ⟨s3, d2⟩
    refine ⟨D1, [], rfl, .of d2, _, rfl, iteF ?_⟩
    refine ⟨_, rfl, a, [], rfl, .inr ha.sq, _, _, rfl, rfl, _, rfl, iteF ?_⟩
    refine ⟨(by show 1 ≤ sizeLine; decide), fun q hq => ⟨_, rfl, q, D, _, rfl, rfl, upd_same, by simp, by show (1 : Int) ≤ (D : Int); omega, by show (D : Int) ≤ 1000; omega, by decide, fun r H4 s4 _ => k r _ ((s3.new hq).trans s4)⟩⟩
/-- counters stand at p -/
def CtrAt (C : Addr) (H : Hp) (p : Addr) (R : List Nat) : Prop := ∃ dx q rs, H p = some (.ins C dx (putF "rests" (.ref rs) (putF "rounds" (.ref q) []))) ∧ H q = some (.tup (R.map vN))
theorem CtrAt.keep {C : Addr} {H H' : Hp} {p : Addr} {R : List Nat} (c : CtrAt C H p R) (s : Same H H') : CtrAt C H' p R := let ⟨dx, q, rs, a, b⟩ := c; ⟨dx, q, rs, s _ _ a, s _ _ b⟩
structure CtrC (K : PySem.W.Frag) (C : Addr) : Prop where
  cl : Cls K C
  rd : NoAttr K C "rounds"
  rs : NoAttr K C "rests"
abbrev sCInit : Stmt := inClass (topS 20) 0
def spCInit (K : PySem.W.Frag) (C : Addr) : Sp := fun vs H Q _ => ∃ (p dx a e : Addr) (R : List Nat), vs = [.ref p, .ref a, .ref e] ∧ H p = some (.ins C dx []) ∧ EmptyK K e ∧ H a = some (.lst (R.map vN)) ∧ 1 ≤ R.length ∧ R.length ≤ 4 ∧ (∀ r, r ∈ R → r ≤ 60) ∧
  ∀ H', (∀ b o, H b = some o → b ≠ p → H' b = some o) → CtrAt C H' p R → Q .non H'
theorem scCInit : FnScope ["self", "rounds", "rests"] ["self", "rounds", "rests"] (defScope sCInit) := ⟨rfl, rfl, rfl, by decide +kernel, rfl, by decide +kernel, by decide +kernel⟩
theorem ok_cinit {C f : Addr} {fd : FuncData} {dvs : List V} {kws : List (Str × V)} (F : FunD K "__init__" "Counters.__init__" (defArgs sCInit) (defBody sCInit) (defScope sCInit) dvs kws f fd) (Z : Gls mg) (T : CtrC K C) (c1 : Cal P w K mg base "check_rounds" 3 ["value"] spRounds) (c2 : Cal P w K mg base "check_rests" 3 ["value", "many"] (spRests K)) :
    FnOk P w K mg base CX0 4 f fd ["self", "rounds", "rests"] (spCInit K C) := by
  refine F.ok scCInit (fun vs H Q E h => ?_) (fun cdv A outer s H vs Q E hr h => ?_)
  · obtain ⟨p, dx, a, e, R, rfl, _⟩ := h; rfl
  · obtain ⟨p, dx, a, e, R, rfl, hp, he, ha, h1, h4, h60, k⟩ := h
    refine ⟨_, (pss_cons (ps_fld (pv 0) (pe_cal c1 hr (by rfl) (pa_cons (pv 1) pa_nil)) rfl)
      (pss_one (ps_fld (pv 0) (pe_cal c2 hr (by rfl) (pa_cons (pv 2) (pa_cons (pe_callB call_len_seq (by rfl) Z.len (by decide +kernel) (pa_cons (pe_fld (pv 0) rfl) pa_nil)) pa_nil))) rfl))), ?_⟩
    refine ⟨_, rfl, a, R, rfl, ha, h1, h4, h60, fun q H1 s1 hq => ?_⟩
    have hp1 := s1 _ _ hp
    have npq : q ≠ p := ne_of hq hp1 (fun z => nomatch z)
    refine ⟨_, rfl, p, C, dx, _, rfl, hp1, T.cl, T.rd, (by show 0 < 1000; decide), ?_⟩
    refine ⟨_, rfl, _, rfl, p, C, dx, _, _, rfl, upd_same, T.cl, T.rd, lk0, q, _, rfl, .inr (.inl (.inl (by rw [upd_ne npq]; exact hq))), ?_⟩
    refine ⟨e, R.length, by rw [List.length_map]; rfl, he, h1, h4, fun rs H2 s2 => ?_⟩
    have hp2 := s2 _ _ (upd_same (H := H1) (a := p))
    have hq2 : H2 q = some (.tup (R.map vN)) := s2 _ _ (by rw [upd_ne npq]; exact hq)
    refine ⟨_, rfl, p, C, dx, _, rfl, hp2, T.cl, T.rs, (by show 1 < 1000; decide), ?_⟩
    refine k _ (fun b o eb hb => ?_) ⟨dx, q, rs, upd_same, by rw [upd_ne npq]; exact hq2⟩
    rw [upd_ne hb]
    refine s2 _ _ ?_
    rw [upd_ne hb]
    exact s1 _ _ eb
/-- a machine stands at p: its tables, how many states it has -/
def MacAt (C : Addr) (H : Hp) (p : Addr) (T : List (List Nat)) (n : Nat) : Prop := ∃ dx tt vs, H p = some (.ins C dx (putF "states" (vN n) (putF "deeds" (vN T.length) (putF "tables" (.ref tt) [])))) ∧ H tt = some (.tup vs) ∧ Paired (TI H) vs T
theorem MacAt.keep {C : Addr} {H H' : Hp} {p : Addr} {T : List (List Nat)} {n : Nat} (c : MacAt C H p T n) (s : Same H H') : MacAt C H' p T n := let ⟨dx, tt, vs, a, b, d⟩ := c; ⟨dx, tt, vs, s _ _ a, s _ _ b, pmap d fun _ _ t => t.keep (.of s)⟩
structure MacC (K : PySem.W.Frag) (C : Addr) : Prop where
  cl : Cls K C
  tb : NoAttr K C "tables"
  dd : NoAttr K C "deeds"
  st : NoAttr K C "states"
/-- tables: n states each -/
structure Tabs (T : List (List Nat)) (n : Nat) : Prop where
  len1 : 1 ≤ T.length
  len4 : T.length ≤ 4
  row : ∀ l, l ∈ T → l.length = n ∧ ∀ x, x ∈ l → x < n
  n1 : 1 ≤ n
  n8 : n ≤ 8
theorem Tabs.get {T : List (List Nat)} {n : Nat} (t : Tabs T n) {d : Nat} (hd : d < T.length) : (T.getD d []).length = n ∧ ∀ x, x ∈ T.getD d [] → x < n := t.row _ (getD_mem hd)
theorem Tabs.act {T : List (List Nat)} {n : Nat} (t : Tabs T n) {d s : Nat} (hd : d < T.length) (hs : s < n) : actT T d s < n := by
  obtain ⟨h1, h2⟩ := t.get hd
  exact h2 _ (getD_mem (by rw [h1]; exact hs))
def spTable (K : PySem.W.Frag) : Sp := fun vs H Q _ => ∃ (a : Addr) (l : List Nat) (n : Nat), vs = [.ref a, vN n] ∧ H a = some (.tup (l.map vN)) ∧ l.length = n ∧ n ≤ 8 ∧ (∀ x, x ∈ l → x < n) ∧ ∀ H', Same H H' → Q (.bl true) H'
theorem scTable : FnScope ["value", "states", "state"] ["value", "states"] (defScope (topS 23)) := ⟨rfl, rfl, rfl, by decide +kernel, rfl, by decide +kernel, by decide +kernel⟩
theorem ok_is_table {f : Addr} {fd : FuncData} (F : Fun K "is_table" "is_table" (topS 23) f fd) (Z : Gls mg) (cs : Cal P w K mg base "is_sequence" 1 ["value"] (spSeq K)) (cb : Cal P w K mg base "is_below" 3 ["value", "most"] spBelow) :
    FnOk P w K mg base CX0 4 f fd ["value", "states"] (spTable K) := by
  refine F.ok scTable (fun vs H Q E h => ?_) (fun cdv A outer s H vs Q E hr h => ?_)
  · obtain ⟨a, l, n, rfl, _⟩ := h; rfl
  · obtain ⟨a, l, n, rfl, ha, hl, h8, hx, k⟩ := h
    refine ⟨_, pss_one (ps_ret (pe_and (pe_cal cs (hr.mono (by decide)) (by rfl) (pa_cons (pv 0) pa_nil)) (pe_and (pe_cmpR op_eq (pe_callB call_len_seq (by rfl) Z.len (by decide +kernel) (pa_cons (pv 0) pa_nil)) (pv 1) (nomark _))
      (pe_one (pe_callB (cr_all rfl) (by rfl) Z.all (by decide +kernel) (pa_cons
          (pe_lc (own := [("state", 2)]) (g := gName 2) (tt := tYes) rfl scTable.nd (pi_tup (pv 0)) (blkOk_by (N := ["value", "states", "state"]) (sc := defScope (topS 23)) (by decide +kernel)) (fun _ _ _ _ _ => pg_name (i := 2) scTable.nd rfl (Or.inl rfl)) (fun _ _ _ _ _ => pts_nil)
            (fun _ _ _ _ _ => pe_cal cb hr (by rfl) (pa_cons (pv 2) (pa_cons (pv 1) pa_nil)))) pa_nil)))))), ?_⟩
    refine ⟨_, rfl, .ref a, _, rfl, .base (.tup ha), .inr rfl, fun H1 s1 => ⟨true, rfl, iteT ?_⟩⟩
    have ha1 := s1 _ _ ha
    refine ⟨_, rfl, a, _, rfl, .inr (.inl (.inl ha1)), _, rfl, rfl, _, rfl, ?_⟩
    refine ifT (by rw [List.length_map, hl]) ?_
    refine ⟨_, rfl, a, rfl, ⟨_, .inl (.inl ha1)⟩, fun D hD => ?_⟩
    refine lc_tup (K := K) (a := a) (xs := l.map vN) (fun i H2 => Same H1 H2 ∧ H2 D = some (.lst (List.replicate i (V.bl true)))) ⟨Same.upd hD, upd_same⟩ (fun i H2 _ q => .inl (.inl (q.1 _ _ ha1))) ?_ ?_
    · rintro i x H2 hx2 ⟨s2, d2⟩
      obtain ⟨m, hm, rfl⟩ := map_vN_get hx2
      have hil : i < l.length := (List.getElem?_eq_some_iff.mp hm).1
      have hmn := hx m (List.mem_of_getElem? hm)
      refine ⟨rfl, yes ?_⟩
      refine ⟨_, rfl, _, rfl, _, _, rfl, by omega, by omega, _, d2, by rw [List.length_replicate]; exact small1000 (by omega), s2.mut hD, ?_⟩
      rw [upd_same, ← List.replicate_succ']
    · rintro H2 ⟨s2, d2⟩
      refine ⟨D, List.replicate (l.map vN).length true, rfl, .of (by rw [d2, List.map_replicate]), ?_⟩
      have e : (List.replicate (l.map vN).length true).all id = true := by simp
      rw [e]
      exact k _ (s1.trans s2)
end
end OWP

/-! ## W4 -/
/-! W4: machines made, looked at; the states that come. -/
namespace OWP
open PySem PySem.Spec PyProof.Rows L2 OWR OW
section
variable {P : Program} {w : World} {K : PySem.W.Frag} {mg : Str → Option Value} {base : Heap} {CM CC : Addr}
def spFit (CM CC : Addr) : Sp := fun vs H Q _ => ∃ (m c : Addr) (T : List (List Nat)) (n : Nat) (R : List Nat), vs = [.ref m, .ref c] ∧ MacAt CM H m T n ∧ CtrAt CC H c R ∧ R.length = T.length ∧ Q (.ref c) H
theorem scFit : FnScope ["machine", "counters"] ["machine", "counters"] (defScope (topS 21)) := ⟨rfl, rfl, rfl, by decide +kernel, rfl, by decide +kernel, by decide +kernel⟩
theorem ok_need_fit {f : Addr} {fd : FuncData} (F : Fun K "need_fit" "need_fit" (topS 21) f fd) (Z : Gls mg) (TM : MacC K CM) (TC : CtrC K CC) : FnOk P w K mg base CX0 1 f fd ["machine", "counters"] (spFit CM CC) := by
  refine F.ok scFit (fun vs H Q E h => ?_) (fun cdv A outer s H vs Q E hr h => ?_)
  · obtain ⟨m, c, T, n, R, rfl, _⟩ := h; rfl
  · obtain ⟨m, c, T, n, R, rfl, ⟨dx, tt, vs, hm, _⟩, ⟨dy, q, rs, hc, hq⟩, hl, k⟩ := h
    refine ⟨_, pss_cons (ps_if (pt_cmpR op_ne (pe_callB call_len_seq (by rfl) Z.len (by decide +kernel) (pa_cons (pe_fld (pv 1) rfl) pa_nil)) (pe_fld (pv 0) rfl) (nomark _)) pss_never pss_nil) (pss_one (ps_ret (pv 1))), ?_⟩
    refine ⟨_, rfl, c, CC, dy, _, _, rfl, hc, TC.cl, TC.rd, lk1 (by decide +kernel) lk0, q, _, rfl, .inr (.inl (.inl hq)), _, rfl, m, CM, dx, _, _, rfl, hm, TM.cl, TM.dd, lk1 (by decide +kernel) lk0, rfl, _, rfl, ?_⟩
    refine iteNS (by rw [List.length_map, hl]) ?_
    exact ⟨_, rfl, k⟩
def spNeedSt (CM : Addr) : Sp := fun vs H Q _ => ∃ (m : Addr) (T : List (List Nat)) (n s : Nat), vs = [.ref m, vN s] ∧ MacAt CM H m T n ∧ s < n ∧ Q (vN s) H
theorem scNeedSt : FnScope ["machine", "state"] ["machine", "state"] (defScope (topS 26)) := ⟨rfl, rfl, rfl, by decide +kernel, rfl, by decide +kernel, by decide +kernel⟩
theorem ok_need_state {f : Addr} {fd : FuncData} (F : Fun K "need_state" "need_state" (topS 26) f fd) (TM : MacC K CM) (cb : Cal P w K mg base "is_below" 3 ["value", "most"] spBelow) : FnOk P w K mg base CX0 4 f fd ["machine", "state"] (spNeedSt CM) := by
  refine F.ok scNeedSt (fun vs H Q E h => ?_) (fun cdv A outer s H vs Q E hr h => ?_)
  · obtain ⟨m, T, n, x, rfl, _⟩ := h; rfl
  · obtain ⟨m, T, n, x, rfl, ⟨dx, tt, vs, hm, _⟩, hx, k⟩ := h
    refine ⟨_, pss_cons (ps_if (pt_not (pt_val (pe_cal cb hr (by rfl) (pa_cons (pv 1) (pa_cons (pe_fld (pv 0) rfl) pa_nil))))) pss_never pss_nil) (pss_one (ps_ret (pv 1))), ?_⟩
    refine ⟨_, rfl, _, rfl, m, CM, dx, _, _, rfl, hm, TM.cl, TM.st, lk0, _, _, rfl, by omega, by omega, true, rfl, iteF ?_⟩
    exact ⟨_, rfl, k⟩
def spTables : Sp := fun vs H Q _ => ∃ (a : Addr) (us : List V) (T : List (List Nat)) (n : Nat), vs = [.ref a] ∧ H a = some (.tup us) ∧ Paired (TI H) us T ∧ Tabs T n ∧ ∀ p H', Same H H' → H' p = some (.tup us) → Q (.ref p) H'
theorem scTables : FnScope ["value", "states", "at", "table"] ["value"] (defScope (topS 24)) := ⟨rfl, rfl, rfl, by decide +kernel, rfl, by decide +kernel, by decide +kernel⟩
theorem ok_check_tables {f : Addr} {fd : FuncData} (F : Fun K "check_tables" "check_tables" (topS 24) f fd) (Z : Gls mg) (C : Cns mg) (cs : Cal P w K mg base "is_sequence" 1 ["value"] (spSeq K)) (ct : Cal P w K mg base "is_table" 4 ["value", "states"] (spTable K)) :
    FnOk P w K mg base CX0 5 f fd ["value"] spTables := by
  refine F.ok scTables (fun vs H Q E h => ?_) (fun cdv A outer s H vs Q E hr h => ?_)
  · obtain ⟨a, us, T, n, rfl, _⟩ := h; rfl
  · obtain ⟨a, us, T, n, rfl, ha, hT, tb, k⟩ := h
    obtain ⟨t4, g4⟩ := C.deeds
    obtain ⟨t8, g8⟩ := C.states
    have hr1 : Room 1 _ := Room.mono hr (by decide)
    have hlen : us.length = T.length := plen hT
    have hl1 := tb.len1
    have hl4 := tb.len4
    refine ⟨_, pss_cons (ps_if (PW.pt (pw_or (pt_not (pt_val (pe_cal cs hr1 (by rfl) (pa_cons (pv 0) pa_nil)))) (pw_or1 (pt_not (pt_chain op_le op_le pe_int (pe_callB call_len_seq (by rfl) Z.len (by decide +kernel) (pa_cons (pv 0) pa_nil)) (pe_num (by rfl) g4)))))) pss_never pss_nil)
      (pss_cons (ps_set (i := 1) scTables.nd rfl (Or.inl rfl) (pe_ifExp (pt_val (pe_cal cs hr1 (by rfl) (pa_cons (pe_ix ix_tup (pv 0) pe_int (fun _ _ => rfl)) pa_nil))) (pe_callB call_len_seq (by rfl) Z.len (by decide +kernel) (pa_cons (pe_ix ix_tup (pv 0) pe_int (fun _ _ => rfl)) pa_nil)) pe_int))
      (pss_cons (ps_for PassesOwn.never rfl (pi_enumT (by rfl) Z.enum (pa_cons (pv 0) pa_nil)) (pg_tup rfl (pgs_cons (pg_name (i := 2) scTables.nd rfl (.inl rfl)) (pgs_cons (pg_name (i := 3) scTables.nd rfl (.inl rfl)) pgs_nil)))
        (pss_one (ps_if (PW.pt (pw_or (pt_not (pt_chain op_le op_le pe_int (pv 1) (pe_num (by rfl) g8))) (pw_or1 (pt_not (pt_val (pe_cal ct hr (by rfl) (pa_cons (pv 3) (pa_cons (pv 1) pa_nil)))))))) pss_never pss_nil)))
      (pss_one (ps_ret (pe_callTy call_tuple_of (by rfl) Z.tuple (by decide +kernel) (pa_cons
        (pe_lc (own := [("table", 3)]) (g := gName 3) (tt := tYes) rfl scTables.nd (pi_tup (pv 0)) (blkOk_by (N := ["value", "states", "at", "table"]) (sc := defScope (topS 24)) (by decide +kernel)) (fun _ _ _ _ _ => pg_name (i := 3) scTables.nd rfl (Or.inl rfl)) (fun _ _ _ _ _ => pts_nil)
            (fun _ _ _ _ _ => pe_callTy (T := "tuple") (r := rTupOf K) (ct_tuple rfl) (by rfl) Z.tuple (by decide +kernel) (pa_cons (pv 3) pa_nil))) pa_nil)))))), ?_⟩
    refine ⟨_, rfl, .ref a, _, rfl, .base (.tup ha), .inr rfl, fun H1 s1 => ⟨true, rfl, iteF ?_⟩⟩
    have ha1 := s1 _ _ ha
    refine ⟨_, rfl, a, _, rfl, .inr (.inl (.inl ha1)), _, _, rfl, rfl, _, rfl, ?_⟩
    refine ifT (by omega) ⟨_, _, rfl, rfl, _, rfl, ?_⟩
    rw [decide_eq_true (show ((us.length : Nat) : Int) ≤ 4 by omega)]
    refine iteF ?_
    -- states
    have h0 : us[0]? = some us[0] := List.getElem?_eq_getElem (by omega)
    obtain ⟨l0, hl0, ⟨b0, eb0, hb0⟩⟩ := pget hT h0
    have hn0 : l0.length = n := (tb.row l0 (List.mem_of_getElem? hl0)).1
    have hb1 := s1 _ _ hb0
    have sN : T.getD 0 [] = l0 := by rw [List.getD_eq_getElem?_getD, hl0]; rfl
    refine ⟨_, rfl, a, us, 0, us[0], rfl, rfl, .inl (.inl ha1), atI_nat h0, us[0], _, rfl, ?_, .inr rfl, fun H2 s2 => ⟨true, rfl, iteT ?_⟩⟩
    · rw [eb0]; exact .base (.tup hb1)
    have ha2 := s2 _ _ ha1
    refine ⟨_, rfl, a, us, 0, us[0], rfl, rfl, .inl (.inl ha2), atI_nat h0, b0, _, by rw [eb0], .inr (.inl (.inl (s2 _ _ hb1))), ?_⟩
    rw [List.length_map, hn0]
    -- the loop
    refine ⟨_, rfl, a, us, rfl, .inl (.inl ha2), ?_⟩
    refine for_it walk_enumT (fun i σ H3 => Same H H3 ∧ ∃ x y, σ = [some (.ref a), some (vN n), x, y]) ⟨s1.trans s2, _, _, rfl⟩ (fun i σ H3 _ q => .inl (.inl (q.1 _ _ ha))) ?_ ?_
    · rintro i v σ H3 H4 hi ⟨s3, x, y, rfl⟩ ⟨Tp, x1, y1, rfl, hTp, rfl, ex, ey⟩
      cases ex
      obtain ⟨l, hl, ⟨b, rfl, hb⟩⟩ := pget hT ey
      obtain ⟨hln, hlx⟩ := tb.row l (List.mem_of_getElem? hl)
      have s4 : Same H (upd H3 Tp (.tup [vN i, V.ref b])) := s3.new hTp
      refine ⟨Tp, _, rfl, .inl (.inl upd_same), rfl, _, _, rfl, _, _, rfl, rfl, ?_⟩
      refine ⟨_, rfl, _, _, rfl, rfl, ⟨_, rfl, ?_⟩⟩
      refine ifT (by have := tb.n1; omega) ⟨_, _, rfl, rfl, _, rfl, ?_⟩
      rw [decide_eq_true (show ((n : Nat) : Int) ≤ 8 by have := tb.n8; omega)]
      refine iteF ?_
      refine ⟨_, rfl, _, rfl, b, l, n, rfl, s4 _ _ hb, hln, tb.n8, hlx, fun H5 s5 => ⟨true, rfl, iteF ?_⟩⟩
      exact ⟨s4.trans s5, _, _, rfl⟩
    · rintro σ H3 ⟨s3, x, y, rfl⟩
      refine ⟨_, rfl, a, rfl, ⟨_, .inl (.inl (s3 _ _ ha))⟩, fun D hD => ?_⟩
      refine lc_tup (K := K) (a := a) (xs := us) (fun i H2 => Same H H2 ∧ H2 D = some (.lst (us.take i))) ⟨s3.new hD, upd_same⟩ (fun i H2 _ q => .inl (.inl (q.1 _ _ ha))) ?_ ?_
      · rintro i u H4 hu ⟨s4, d4⟩
        obtain ⟨l, hl, ⟨b, rfl, hb⟩⟩ := pget hT hu
        have hD0 : H D = none := s3.free hD
        refine ⟨rfl, yes ⟨_, rfl, b, _, rfl, .inr ⟨.inl (.inl (s4 _ _ hb)), _, d4, ?_, s4.mut hD0, ?_⟩⟩⟩
        · rw [List.length_take]; exact small1000 (by omega)
        · rw [upd_same, List.take_add_one, hu]; rfl
      · rintro H4 ⟨s4, d4⟩
        rw [List.take_length] at d4
        exact ⟨D, _, rfl, .inl ⟨.of d4, fun q hq => k q _ (s4.new hq) upd_same⟩⟩
abbrev sMInit : Stmt := inClass (topS 25) 0
def spMInit (CM : Addr) : Sp := fun vs H Q _ => ∃ (p dx a : Addr) (us : List V) (T : List (List Nat)) (n : Nat), vs = [.ref p, .ref a] ∧ H p = some (.ins CM dx []) ∧ H a = some (.tup us) ∧ Paired (TI H) us T ∧ Tabs T n ∧
  ∀ H', (∀ b o, H b = some o → b ≠ p → H' b = some o) → MacAt CM H' p T n → Q .non H'
theorem scMInit : FnScope ["self", "tables"] ["self", "tables"] (defScope sMInit) := ⟨rfl, rfl, rfl, by decide +kernel, rfl, by decide +kernel, by decide +kernel⟩
theorem ok_minit {f : Addr} {fd : FuncData} (F : Fun K "__init__" "Machine.__init__" sMInit f fd) (Z : Gls mg) (TM : MacC K CM) (ct : Cal P w K mg base "check_tables" 5 ["value"] spTables) : FnOk P w K mg base CX0 6 f fd ["self", "tables"] (spMInit CM) := by
  refine F.ok scMInit (fun vs H Q E h => ?_) (fun cdv A outer s H vs Q E hr h => ?_)
  · obtain ⟨p, dx, a, us, T, n, rfl, _⟩ := h; rfl
  · obtain ⟨p, dx, a, us, T, n, rfl, hp, ha, hT, tb, k⟩ := h
    refine ⟨_, pss_cons (ps_fld (pv 0) (pe_cal ct hr (by rfl) (pa_cons (pv 1) pa_nil)) rfl)
      (pss_cons (ps_fld (pv 0) (pe_callB call_len_seq (by rfl) Z.len (by decide +kernel) (pa_cons (pe_fld (pv 0) rfl) pa_nil)) rfl)
      (pss_one (ps_fld (pv 0) (pe_callB call_len_seq (by rfl) Z.len (by decide +kernel) (pa_cons (pe_ix ix_tup (pe_fld (pv 0) rfl) pe_int (fun _ _ => rfl)) pa_nil)) rfl))), ?_⟩
    refine ⟨_, rfl, a, us, T, n, rfl, ha, hT, tb, fun q H1 s1 hq => ?_⟩
    have hp1 := s1 _ _ hp
    have npq : q ≠ p := ne_of hq hp1 (fun z => nomatch z)
    have nt : ∀ ys, HO.ins CM dx [] ≠ .tup ys := fun ys z => nomatch z
    refine ⟨_, rfl, p, CM, dx, _, rfl, hp1, TM.cl, TM.tb, (by show 0 < 1000; decide), ?_⟩
    refine ⟨_, rfl, p, CM, dx, _, _, rfl, upd_same, TM.cl, TM.tb, lk0, q, _, rfl, .inr (.inl (.inl (by rw [upd_ne npq]; exact hq))), _, rfl, p, CM, dx, _, rfl, upd_same, TM.cl, TM.dd, (by show 1 < 1000; decide), ?_⟩
    have hl1 := tb.len1
    have hlen : us.length = T.length := plen hT
    have h0 : us[0]? = some us[0] := List.getElem?_eq_getElem (by omega)
    obtain ⟨l0, hl0, ⟨b0, eb0, hb0⟩⟩ := pget hT h0
    have hn0 : l0.length = n := (tb.row l0 (List.mem_of_getElem? hl0)).1
    have nb0 : b0 ≠ p := ne_of (s1 _ _ hb0) hp1 (fun z => nomatch z)
    refine ⟨_, rfl, p, CM, dx, _, _, rfl, upd_same, TM.cl, TM.tb, lk1 (by decide +kernel) lk0, q, us, 0, us[0], rfl, rfl, .inl (.inl (by rw [upd_ne npq, upd_ne npq]; exact hq)), atI_nat h0, b0, _, by rw [eb0], .inr (.inl (.inl (by rw [upd_ne nb0, upd_ne nb0]; exact s1 _ _ hb0))),
      _, rfl, p, CM, dx, _, rfl, upd_same, TM.cl, TM.st, Nat.lt_of_le_of_lt (len_putF _ _ _) (by show 1 + 1 < 1000; decide), ?_⟩
    rw [List.length_map, hn0, hlen]
    refine k _ (fun b o eb hb => ?_) ⟨dx, q, us, upd_same, by rw [upd_ne npq, upd_ne npq, upd_ne npq]; exact hq, pmap hT fun v l hv => ?_⟩
    · rw [upd_ne hb, upd_ne hb, upd_ne hb]; exact s1 _ _ eb
    · refine hv.keep fun c ys ec => ?_
      have nc : c ≠ p := ne_of (s1 _ _ ec) hp1 (fun z => nomatch z)
      rw [upd_ne nc, upd_ne nc, upd_ne nc]; exact s1 _ _ ec
end
end OWP

/-! ## W5 -/
/-! W5: the states that come; what forgets. -/
namespace OWP
open PySem PySem.Spec PyProof.Rows L2 OWR OW
/-- what a search for the states that come has found (F) and has yet to look at (W); ex: what is looked at just now -/
structure RI (T : List (List Nat)) (f n : Nat) (F W : List Nat) (ex : Nat → Nat → Prop) : Prop where
  nd : F.Nodup
  sub : ∀ x, x ∈ W → x ∈ F
  first : f ∈ F
  rch : ∀ x, x ∈ F → RchA (actT T) T.length f x
  lt : ∀ x, x ∈ F → x < n
  wl : W.length ≤ F.length
  cl : ∀ x, x ∈ F → x ∉ W → ∀ d, d < T.length → ¬ ex x d → actT T d x ∈ F
theorem RI.start {T : List (List Nat)} {f n : Nat} (h : f < n) : RI T f n [f] [f] (fun _ _ => False) :=
  ⟨by simp, fun _ h => h, by simp, fun x hx => by simp at hx; subst hx; exact RchA.start, fun x hx => by simp at hx; subst hx; exact h, Nat.le_refl _, fun x hx hn => absurd hx hn⟩
theorem RI.pop {T : List (List Nat)} {f n : Nat} {F W : List Nat} {s : Nat} (r : RI T f n F (W ++ [s]) (fun _ _ => False)) : RI T f n F W (fun x d => x = s ∧ 0 ≤ d) where
  nd := r.nd
  sub := fun x hx => r.sub x (List.mem_append_left _ hx)
  first := r.first
  rch := r.rch
  lt := r.lt
  wl := by have := r.wl; rw [List.length_append] at this; omega
  cl := fun x hx hn d hd he => r.cl x hx (fun hm => by
    obtain h | h := List.mem_append.mp hm
    · exact hn h
    · exact he ⟨List.mem_singleton.mp h, Nat.zero_le _⟩) d hd id
theorem RI.old {T : List (List Nat)} {f n : Nat} {F W : List Nat} {s i : Nat} (r : RI T f n F W (fun x d => x = s ∧ i ≤ d)) (h : actT T i s ∈ F) : RI T f n F W (fun x d => x = s ∧ i + 1 ≤ d) where
  nd := r.nd
  sub := r.sub
  first := r.first
  rch := r.rch
  lt := r.lt
  wl := r.wl
  cl := fun x hx hn d hd he => by
    by_cases hxs : x = s ∧ d = i
    · rw [hxs.1, hxs.2]; exact h
    · exact r.cl x hx hn d hd fun q => he ⟨q.1, by have := q.2; have : d ≠ i := fun z => hxs ⟨q.1, z⟩; omega⟩
theorem RI.add {T : List (List Nat)} {f n : Nat} {F W : List Nat} {s i : Nat} (r : RI T f n F W (fun x d => x = s ∧ i ≤ d)) (hs : s ∈ F) (hi : i < T.length) (tb : Tabs T n) (h : actT T i s ∉ F) : RI T f n (F ++ [actT T i s]) (W ++ [actT T i s]) (fun x d => x = s ∧ i + 1 ≤ d) where
  nd := List.nodup_append.mpr ⟨r.nd, by simp, fun x hx y hy => by simp at hy; subst hy; exact fun e => h (e ▸ hx)⟩
  sub := fun x hx => by
    obtain q | q := List.mem_append.mp hx
    · exact List.mem_append_left _ (r.sub x q)
    · exact List.mem_append_right _ q
  first := List.mem_append_left _ r.first
  rch := fun x hx => by
    obtain q | q := List.mem_append.mp hx
    · exact r.rch x q
    · rw [List.mem_singleton.mp q]; exact (r.rch s hs).step hi
  lt := fun x hx => by
    obtain q | q := List.mem_append.mp hx
    · exact r.lt x q
    · rw [List.mem_singleton.mp q]; exact tb.act hi (r.lt s hs)
  wl := by have := r.wl; rw [List.length_append, List.length_append]; exact Nat.add_le_add_right this _
  cl := fun x hx hn d hd he => by
    obtain q | q := List.mem_append.mp hx
    · by_cases hxs : x = s ∧ d = i
      · rw [hxs.1, hxs.2]; simp
      · exact List.mem_append_left _ (r.cl x q (fun z => hn (List.mem_append_left _ z)) d hd fun q => he ⟨q.1, by have := q.2; have : d ≠ i := fun z => hxs ⟨q.1, z⟩; omega⟩)
    · exact absurd (List.mem_append_right _ q) hn
theorem RI.done {T : List (List Nat)} {f n : Nat} {F W : List Nat} {s : Nat} (r : RI T f n F W (fun x d => x = s ∧ T.length ≤ d)) : RI T f n F W (fun _ _ => False) where
  nd := r.nd
  sub := r.sub
  first := r.first
  rch := r.rch
  lt := r.lt
  wl := r.wl
  cl := fun x hx hn d hd _ => r.cl x hx hn d hd fun q => by have := q.2; omega
theorem RI.mem {T : List (List Nat)} {f n : Nat} {F : List Nat} (r : RI T f n F [] (fun _ _ => False)) (x : Nat) : x ∈ F ↔ RchA (actT T) T.length f x := by
  refine ⟨r.rch x, fun ⟨u, hu, e⟩ => ?_⟩
  have go : ∀ (u : List Nat) (y : Nat), Wd T.length u → y ∈ F → runA (actT T) u y ∈ F := by
    intro u
    induction u with
    | nil => intro y _ hy; exact hy
    | cons d u ih => intro y hu hy; exact ih _ hu.tail (r.cl y hy (by simp) d hu.head id)
  rw [← e]; exact go u f hu r.first
theorem RI.len {T : List (List Nat)} {f n : Nat} {F W : List Nat} {ex : Nat → Nat → Prop} (r : RI T f n F W ex) : F.length ≤ n := by
  have := nodup_sub r.nd (m := List.range n) fun x hx => List.mem_range.mpr (r.lt x hx)
  rwa [List.length_range] at this
section
variable {P : Program} {w : World} {K : PySem.W.Frag} {mg : Str → Option Value} {base : Heap} {CM CC : Addr}
def spReached (CM : Addr) : Sp := fun vs H Q _ => ∃ (m : Addr) (T : List (List Nat)) (n f : Nat), vs = [.ref m, vN f] ∧ MacAt CM H m T n ∧ Tabs T n ∧ f < n ∧
  ∀ p H' (S : List Nat), Same H H' → H' p = some (.tup (S.map vN)) → S.Nodup → (∀ x, x ∈ S ↔ RchA (actT T) T.length f x) → (∀ x, x ∈ S → x < n) → Q (.ref p) H'
theorem scReached : FnScope ["machine", "first", "found", "waiting", "here", "table"] ["machine", "first"] (defScope (topS 27)) := ⟨rfl, rfl, rfl, by decide +kernel, rfl, by decide +kernel, by decide +kernel⟩
theorem ok_reached {f : Addr} {fd : FuncData} (F : Fun K "reached" "reached" (topS 27) f fd) (Z : Gls mg) (TM : MacC K CM) (cn : Cal P w K mg base "need_state" 4 ["machine", "state"] (spNeedSt CM)) : FnOk P w K mg base CX0 5 f fd ["machine", "first"] (spReached CM) := by
  refine F.ok scReached (fun vs H Q E h => ?_) (fun cdv A outer s H vs Q E hr h => ?_)
  · obtain ⟨m, T, n, f, rfl, _⟩ := h; rfl
  · obtain ⟨m, T, n, f, rfl, hM, tb, hf, k⟩ := h
    have hu := hu_of hr
    obtain ⟨dx, tt, us, hm, htt, hT⟩ := id hM
    have hlen : us.length = T.length := plen hT
    refine ⟨_, pss_cons (ps_set (i := 2) scReached.nd rfl (Or.inl rfl) (pe_disp (pps_cons (pe_cal cn hr (by rfl) (pa_cons (pv 0) (pa_cons (pv 1) pa_nil))) pe_bl pps_nil) (by rfl) (by rfl) (fun z => by cases z) (by decide)))
      (pss_cons (ps_set (i := 3) scReached.nd rfl (Or.inl rfl) (pe_lst (pa_cons (pv 1) pa_nil)))
      (pss_cons (ps_while PassesOwn.never (pt_cmpR op_gt (pe_callB call_len_seq (by rfl) Z.len (by decide +kernel) (pa_cons (pv 3) pa_nil)) pe_int (nomark _))
        (pss_cons (ps_set (i := 4) scReached.nd rfl (Or.inl rfl) (pe_bm0 PySem.F.plainAttrs_list PySem.F.slot_list_pop PySem.F.type_list_pop mt_pop (pv 3)))
        (pss_one (ps_for PassesOwn.never rfl (pi_tup (pe_fld (pv 0) rfl)) (pg_name (i := 5) scReached.nd rfl (Or.inl rfl))
          (pss_one (ps_if (pt_cmp (pc_dnotin hu (pe_ix ix_tup (pv 5) (pv 4) (fun _ _ => rfl)) (pv 2)))
            (pss_cons (ps_dput hu (pv 2) (pe_ix ix_tup (pv 5) (pv 4) (fun _ _ => rfl)) pe_bl rfl)
            (pss_one (ps_expr (pe_bm PySem.F.plainAttrs_list PySem.F.slot_list_append PySem.F.type_list_append mt_append (pv 3) (pa_cons (pe_ix ix_tup (pv 5) (pv 4) (fun _ _ => rfl)) pa_nil)))))
            pss_nil))))))
      (pss_one (ps_ret (pe_callTy call_tuple_of (by rfl) Z.tuple (by decide +kernel) (pa_cons (pe_callB cr_sortedI (by rfl) Z.sorted (by decide +kernel) (pa_cons (pe_callTy (call_list_dK rfl) (by rfl) Z.list (by decide +kernel) (pa_cons (pv 2) pa_nil)) pa_nil)) pa_nil)))))), ?_⟩
    intro d hd
    have sd : Same H _ := Same.upd (o := .dK []) hd
    refine ⟨_, rfl, _, rfl, m, T, n, f, rfl, hM.keep sd, hf, upd_same, [((Sum.inl (f : Int) : Key), .bl true)], rfl, (by show 1 ≤ 15; decide), ?_⟩
    have e1 : mergeK [] [((Sum.inl (f : Int) : Key), V.bl true)] = kF (.bl true) [f] := rfl
    rw [e1, upd_upd]
    refine ⟨_, rfl, (by show 1 ≤ sizeLine; decide), fun wl hw => ?_⟩
    have hwd : wl ≠ d := fun z => by rw [z, upd_same] at hw; cases hw
    have hw0 : H wl = none := by rw [upd_ne hwd] at hw; exact hw
    -- the walk
    refine ⟨fun mm σ H1 => ∃ (F W : List Nat) (x y : Option V), mm = 2 * (n - F.length) + W.length ∧ σ = [some (.ref m), some (vN f), some (.ref d), some (.ref wl), x, y] ∧ Same H H1 ∧ H1 d = some (.dK (kF (.bl true) F)) ∧ H1 wl = some (.lst (W.map vN)) ∧ RI T f n F W (fun _ _ => False),
      ⟨_, [f], [f], none, none, rfl, rfl, (Same.upd hd).mut hw0, by rw [upd_ne hwd.symm, upd_same], upd_same, RI.start hf⟩, ?_⟩
    rintro mm σ H1 ⟨F, W, x, y, rfl, rfl, s1, hd1, hw1, ri⟩
    refine ⟨_, rfl, wl, _, rfl, .inl (.of hw1), _, _, rfl, rfl, _, rfl, ?_⟩
    rw [List.length_map]
    refine ite2 (fun hpos => ?_) (fun hz => ?_)
    · have hWl : 0 < W.length := by have := of_decide_eq_true hpos; omega
      obtain ⟨s0, hs0, eW⟩ := last_of hWl
      generalize hW' : W.dropLast = W' at eW
      subst eW
      have hsF : s0 ∈ F := ri.sub s0 (by simp)
      have hsn : s0 < n := ri.lt s0 hsF
      refine ⟨fun σ2 H2 => ∃ (F2 W2 : List Nat) (x y : Option V), 2 * (n - F2.length) + W2.length + 1 ≤ 2 * (n - F.length) + (W' ++ [s0]).length ∧ σ2 = [some (.ref m), some (vN f), some (.ref d), some (.ref wl), x, y] ∧ Same H H2 ∧ H2 d = some (.dK (kF (.bl true) F2)) ∧ H2 wl = some (.lst (W2.map vN)) ∧ RI T f n F2 W2 (fun _ _ => False),
        fun σ' H' ⟨F2, W2, x, y, hm2, e, a1, a2, a3, a4⟩ => ⟨2 * (n - F2.length) + W2.length, by omega, F2, W2, x, y, rfl, e, a1, a2, a3, a4⟩, ?_⟩
      have eL : (W' ++ [s0]).map vN = W'.map vN ++ [vN s0] := by rw [List.map_append]; rfl
      refine ⟨_, rfl, .inl ⟨rfl, _, .of hw1⟩, wl, _, vN s0, rfl, rfl, hw1, (by rw [eL]; simp), ?_⟩
      have edl : ((W' ++ [s0]).map vN).dropLast = W'.map vN := by rw [eL, List.dropLast_concat]
      rw [edl]
      have s2 : Same H (upd H1 wl (.lst (W'.map vN))) := s1.mut hw0
      have hM2 := s2 _ _ hm
      refine ⟨_, rfl, m, CM, dx, _, _, rfl, hM2, TM.cl, TM.tb, lk1 (by decide +kernel) (lk1 (by decide +kernel) lk0), tt, rfl, ⟨us, .inl (.inl (s2 _ _ htt))⟩, ?_⟩
      refine for_tup (K := K) (a := tt) (xs := us) (fun i σ2 H2 => ∃ (F2 W2 : List Nat) (y : Option V), 2 * (n - F2.length) + W2.length + 1 ≤ 2 * (n - F.length) + (W' ++ [s0]).length ∧ σ2 = [some (.ref m), some (vN f), some (.ref d), some (.ref wl), some (vN s0), y] ∧ Same H H2 ∧ H2 d = some (.dK (kF (.bl true) F2)) ∧ H2 wl = some (.lst (W2.map vN)) ∧ s0 ∈ F2 ∧ RI T f n F2 W2 (fun x d => x = s0 ∧ i ≤ d))
        ⟨F, W', y, by simp; omega, rfl, s2, by rw [upd_ne hwd.symm]; exact hd1, upd_same, hsF, ri.pop⟩ (fun i σ2 H2 _ ⟨_, _, _, _, _, a, _⟩ => .inl (.inl (a _ _ htt))) ?_ ?_
      · rintro i u σ2 H2 hu2 ⟨F2, W2, y2, hms, rfl, s3, hd2, hw2, hs2, ri2⟩
        obtain ⟨l, hl, ⟨b, rfl, hb⟩⟩ := pget hT hu2
        have hi : i < T.length := (List.getElem?_eq_some_iff.mp hl).1
        have hln : l.length = n := (tb.row l (List.mem_of_getElem? hl)).1
        have eact : l.getD s0 0 = actT T i s0 := by unfold actT; rw [List.getD_eq_getElem?_getD (l := T), hl]; rfl
        have hix : atI (l.map vN) ((s0 : Nat) : Int) = some (vN (actT T i s0)) := by rw [← eact]; exact at_vN (by omega)
        have hb2 : H2 b = some (.tup (l.map vN)) := s3 _ _ hb
        have lenF := ri2.len
        refine ⟨_, rfl, _, rfl, b, _, _, _, rfl, rfl, .inl (.inl hb2), hix, _, rfl, d, _, rfl, DGet.k (k := (Sum.inl (actT T i s0 : Int) : Key)) hd2, _, rfl, ?_⟩
        rw [kF_val]
        by_cases hin : actT T i s0 ∈ F2
        · rw [if_pos hin]
          refine iteF ?_
          exact ⟨F2, W2, _, hms, rfl, s3, hd2, hw2, hs2, ri2.old hin⟩
        · rw [if_neg hin]
          refine iteT ?_
          have nb : d ≠ b := ne_of hd2 hb2 (fun z => nomatch z)
          have nbw : wl ≠ b := ne_of hw2 hb2 (fun z => nomatch z)
          refine ⟨_, rfl, _, rfl, _, rfl, b, _, _, _, rfl, rfl, .inl (.inl hb2), hix, d, _, rfl, DPut.k (k := (Sum.inl (actT T i s0 : Int) : Key)) hd2 (by rw [kF_len]; exact small1000 (by have := tb.n8; omega)), ?_⟩
          rw [kF_put _ hin]
          have hb3 : upd H2 d (.dK (kF (.bl true) (F2 ++ [actT T i s0]))) b = some (.tup (l.map vN)) := by rw [upd_ne nb.symm]; exact hb2
          have hw3 : upd H2 d (.dK (kF (.bl true) (F2 ++ [actT T i s0]))) wl = some (.lst (W2.map vN)) := by rw [upd_ne hwd]; exact hw2
          have hd0 : H d = none := hd
          have hr2 := (ri2.add hs2 hi tb hin)
          have hwl : W2.length ≤ 100 := by have := tb.n8; have := ri2.wl; omega
          refine ⟨_, rfl, .inl ⟨rfl, _, .of hw3⟩, _, rfl, _, rfl, b, _, _, _, rfl, rfl, .inl (.inl hb3), hix, wl, _, _, rfl, rfl, hw3, by rw [List.length_map]; exact small1000 (by omega), ?_⟩
          have lf2 := hr2.len
          rw [List.length_append] at lf2
          refine ⟨F2 ++ [actT T i s0], W2 ++ [actT T i s0], _, by simp at hms lf2 ⊢; omega, rfl, (s3.mut hd0).mut hw0, by rw [upd_ne hwd.symm, upd_same], ?_, List.mem_append_left _ hs2, hr2⟩
          rw [upd_same, List.map_append]; rfl
      · rintro σ2 H2 ⟨F2, W2, y2, hms, rfl, s3, hd2, hw2, hs2, ri2⟩
        rw [hlen] at ri2
        exact ⟨F2, W2, _, _, hms, rfl, s3, hd2, hw2, ri2.done⟩
    · have hW0 : W = [] := List.eq_nil_of_length_eq_zero (by
        have : ¬ (0 : Int) < (W.length : Int) := fun z => hz (decide_eq_true z)
        omega)
      subst hW0
      refine ⟨_, rfl, d, _, rfl, hd1, fun q hq => ?_⟩
      rw [kF_keys]
      refine ⟨q, F.map fun x : Nat => (x : Int), rfl, .of (by rw [upd_same, List.map_map]; rfl), fun ns p hperm _ hp => ?_⟩
      obtain ⟨S, rfl, hS⟩ := perm_nat hperm
      have s4 : Same H _ := ((s1.new (o := .lst (F.map vN)) hq).new (o := .lst ((S.map fun x : Nat => (x : Int)).map V.int)) hp)
      refine ⟨p, _, rfl, .inl ⟨.of upd_same, fun r hr => ?_⟩⟩
      refine k r _ S (s4.new hr) (by rw [upd_same, List.map_map]; rfl) (hS.nodup_iff.mpr ri.nd) (fun x => (hS.mem_iff).trans (ri.mem x)) fun x hx => ri.lt x (hS.mem_iff.mp hx)
end
end OWP

/-! ## W6 -/
/-! W6: a machine that exchanges. -/
namespace OWP
open PySem PySem.Spec PyProof.Rows L2 OWR OW
/-- each deed leads unlike states that come to unlike ones -/
def Exch (T : List (List Nat)) (f : Nat) : Prop := ∀ d s t, d < T.length → RchA (actT T) T.length f s → RchA (actT T) T.length f t → actT T d s = actT T d t → s = t
theorem cut_from (xs : List V) (k : Nat) : cutV xs (some (k : Int)) none = xs.drop k := by
  unfold cutV
  rw [HT.sIx_none, HT.sIx_nat]
  by_cases h : k ≤ xs.length
  · rw [Nat.min_eq_left h, List.take_of_length_le (by rw [List.length_drop]; exact Nat.le_refl _)]
  · rw [Nat.min_eq_right (by omega), Nat.sub_self, List.take_zero, List.drop_of_length_le (by omega)]
section
variable {P : Program} {w : World} {K : PySem.W.Frag} {mg : Str → Option Value} {base : Heap} {CM CC : Addr}
def spForgotten (CM : Addr) : Sp := fun vs H Q _ => ∃ (m : Addr) (T : List (List Nat)) (n f : Nat), vs = [.ref m, vN f] ∧ MacAt CM H m T n ∧ Tabs T n ∧ f < n ∧ Exch T f ∧ ∀ H', Same H H' → Q .non H'
theorem scForgotten : FnScope ["machine", "first", "states", "deed", "table", "at", "one", "other"] ["machine", "first"] (defScope (topS 28)) := ⟨rfl, rfl, rfl, by decide +kernel, rfl, by decide +kernel, by decide +kernel⟩
theorem ok_forgotten {f : Addr} {fd : FuncData} (F : Fun K "forgotten" "forgotten" (topS 28) f fd) (Z : Gls mg) (TM : MacC K CM) (cr : Cal P w K mg base "reached" 5 ["machine", "first"] (spReached CM)) : FnOk P w K mg base CX0 6 f fd ["machine", "first"] (spForgotten CM) := by
  refine F.ok scForgotten (fun vs H Q E h => ?_) (fun cdv A outer s H vs Q E hr h => ?_)
  · obtain ⟨m, T, n, f, rfl, _⟩ := h; rfl
  · obtain ⟨m, T, n, f, rfl, hM, tb, hf, hx, k⟩ := h
    obtain ⟨dx, tt, us, hm, htt, hT⟩ := id hM
    have hlen : us.length = T.length := plen hT
    refine ⟨_, pss_cons (ps_set (i := 2) scForgotten.nd rfl (Or.inl rfl) (pe_cal cr hr (by rfl) (pa_cons (pv 0) (pa_cons (pv 1) pa_nil))))
      (pss_cons (ps_for PassesOwn.never rfl (pi_enumT (by rfl) Z.enum (pa_cons (pe_fld (pv 0) rfl) pa_nil)) (pg_tup rfl (pgs_cons (pg_name (i := 3) scForgotten.nd rfl (.inl rfl)) (pgs_cons (pg_name (i := 4) scForgotten.nd rfl (.inl rfl)) pgs_nil)))
        (pss_one (ps_for PassesOwn.never rfl (pi_enumT (by rfl) Z.enum (pa_cons (pv 2) pa_nil)) (pg_tup rfl (pgs_cons (pg_name (i := 5) scForgotten.nd rfl (.inl rfl)) (pgs_cons (pg_name (i := 6) scForgotten.nd rfl (.inl rfl)) pgs_nil)))
          (pss_one (ps_for PassesOwn.never rfl (pi_tup (pe_slice sl_tupA (pv 2) (po_some (pe_op op_add (pv 5) pe_int)) po_none)) (pg_name (i := 7) scForgotten.nd rfl (.inl rfl))
            (pss_one (ps_if (pt_cmpR op_eq (pe_ix ix_tup (pv 4) (pv 6) (fun _ _ => rfl)) (pe_ix ix_tup (pv 4) (pv 7) (fun _ _ => rfl)) (nomark _)) (pss_one (ps_ret (pe_tup (pa_cons (pv 3) (pa_cons (pv 6) (pa_cons (pv 7) pa_nil)))))) pss_nil)))))))
      (pss_one (ps_ret pe_non))), ?_⟩
    refine ⟨_, rfl, _, rfl, m, T, n, f, rfl, hM, tb, hf, fun S0 H1 S s1 hS nd mem lt => ?_⟩
    refine ⟨_, rfl, m, CM, dx, _, _, rfl, s1 _ _ hm, TM.cl, TM.tb, lk1 (by decide +kernel) (lk1 (by decide +kernel) lk0), tt, us, rfl, .inl (.inl (s1 _ _ htt)), ?_⟩
    refine for_it walk_enumT (fun i σ H3 => Same H1 H3 ∧ ∃ a b c d e, σ = [some (.ref m), some (vN f), some (.ref S0), a, b, c, d, e]) ⟨Same.refl _, _, _, _, _, _, rfl⟩ (fun i σ H3 _ q => .inl (.inl (q.1 _ _ (s1 _ _ htt)))) ?_ ?_
    · rintro i v σ H3 H4 hi ⟨s3, a, b, c, d, e, rfl⟩ ⟨Tp, x1, y1, rfl, hTp, rfl, ex, ey⟩
      cases ex
      obtain ⟨l, hl, ⟨tb0, rfl, hb⟩⟩ := pget hT ey
      have hiT : i < T.length := (List.getElem?_eq_some_iff.mp hl).1
      have hln : l.length = n := (tb.row l (List.mem_of_getElem? hl)).1
      have eact : ∀ x, l.getD x 0 = actT T i x := fun x => by unfold actT; rw [List.getD_eq_getElem?_getD (l := T), hl]; rfl
      have s4 : Same H1 (upd H3 Tp (.tup [vN i, V.ref tb0])) := s3.new hTp
      refine ⟨Tp, _, rfl, .inl (.inl upd_same), rfl, _, _, rfl, _, _, rfl, rfl, ?_⟩
      refine ⟨_, rfl, S0, _, rfl, .inl (.inl (s4 _ _ hS)), ?_⟩
      refine for_it walk_enumT (fun j σ H5 => Same H1 H5 ∧ ∃ c d e, σ = [some (.ref m), some (vN f), some (.ref S0), some (vN i), some (.ref tb0), c, d, e]) ⟨s4, _, _, _, rfl⟩ (fun j σ H5 _ q => .inl (.inl (q.1 _ _ hS))) ?_ ?_
      · rintro j v σ H5 H6 hj ⟨s5, c, d, e, rfl⟩ ⟨Tq, x2, y2, rfl, hTq, rfl, ex, ey2⟩
        cases ex
        obtain ⟨one, h1, rfl⟩ := map_vN_get ey2
        have s6 : Same H1 (upd H5 Tq (.tup [vN j, vN one])) := s5.new hTq
        refine ⟨Tq, _, rfl, .inl (.inl upd_same), rfl, _, _, rfl, _, _, rfl, rfl, ?_⟩
        refine ⟨_, rfl, _, rfl, _, _, rfl, rfl, ⟨_, rfl, ?_⟩⟩
        have jl : j < S.length := (List.getElem?_eq_some_iff.mp h1).1
        have ej : (((j : Nat) : Int) + 1) = (((j + 1 : Nat)) : Int) := by omega
        refine ⟨S0, _, rfl, .inl (.inl (s6 _ _ hS)), fun hw => ?_, fun _ p hp => ?_⟩
        · exfalso
          have h0 := hw.1
          rw [ej, HT.sIx_nat, List.length_map] at h0
          omega
        · rw [ej, cut_from]
          refine ⟨p, rfl, ⟨_, .inl (.inl upd_same)⟩, ?_⟩
          generalize hH7 : upd (upd H5 Tq (.tup [vN j, vN one])) p (.tup ((S.map vN).drop (j + 1))) = H7
          have s7 : Same H1 H7 := by rw [← hH7]; exact s6.new hp
          have h7 : H7 p = some (.tup ((S.map vN).drop (j + 1))) := by rw [← hH7]; exact upd_same
          refine for_tup (K := K) (a := p) (xs := (S.map vN).drop (j + 1)) (fun q σ H8 => Same H7 H8 ∧ ∃ e, σ = [some (.ref m), some (vN f), some (.ref S0), some (vN i), some (.ref tb0), some (vN j), some (vN one), e]) ⟨Same.refl _, _, rfl⟩ (fun q σ H8 _ z => .inl (.inl (z.1 _ _ h7))) ?_ ?_
          · rintro q u σ H8 hu ⟨s8, e, rfl⟩
            rw [List.getElem?_drop] at hu
            obtain ⟨other, h2, rfl⟩ := map_vN_get hu
            have hb8 : H8 tb0 = some (.tup (l.map vN)) := s8 _ _ (s7 _ _ (s1 _ _ hb))
            have o1 := lt one (List.mem_of_getElem? h1)
            have o2 := lt other (List.mem_of_getElem? h2)
            refine ⟨_, rfl, _, rfl, tb0, _, _, _, rfl, rfl, .inl (.inl hb8), at_vN (by omega), _, rfl, _, rfl, tb0, _, _, _, rfl, rfl, .inl (.inl hb8), at_vN (by omega), rfl, _, rfl, ?_⟩
            rw [eact, eact]
            refine ifF (fun z => ?_) ⟨s8, _, rfl⟩
            have z2 := hx i one other hiT ((mem one).mp (List.mem_of_getElem? h1)) ((mem other).mp (List.mem_of_getElem? h2)) (vN_inj z)
            rw [z2] at h1
            have := nd_ix nd h1 h2
            omega
          · rintro σ H8 ⟨s8, e, rfl⟩
            exact ⟨s7.trans s8, _, _, _, rfl⟩
      · rintro σ H5 ⟨s5, c, d, e, rfl⟩
        exact ⟨s5, _, _, _, _, _, rfl⟩
    · rintro σ H3 ⟨s3, a, b, c, d, e, rfl⟩
      exact k _ (s1.trans s3)
def spExch (CM : Addr) : Sp := fun vs H Q _ => ∃ (m : Addr) (T : List (List Nat)) (n f : Nat), vs = [.ref m, vN f] ∧ MacAt CM H m T n ∧ Tabs T n ∧ f < n ∧ Exch T f ∧ ∀ H', Same H H' → Q (.ref m) H'
theorem scExch : FnScope ["machine", "first", "paper"] ["machine", "first"] (defScope (topS 29)) := ⟨rfl, rfl, rfl, by decide +kernel, rfl, by decide +kernel, by decide +kernel⟩
theorem ok_need_exchanges {f : Addr} {fd : FuncData} (F : Fun K "need_exchanges" "need_exchanges" (topS 29) f fd) (cf : Cal P w K mg base "forgotten" 6 ["machine", "first"] (spForgotten CM)) : FnOk P w K mg base CX0 7 f fd ["machine", "first"] (spExch CM) := by
  refine F.ok scExch (fun vs H Q E h => ?_) (fun cdv A outer s H vs Q E hr h => ?_)
  · obtain ⟨m, T, n, f, rfl, _⟩ := h; rfl
  · obtain ⟨m, T, n, f, rfl, hM, tb, hf, hx, k⟩ := h
    refine ⟨_, pss_cons (ps_set (i := 2) scExch.nd rfl (Or.inl rfl) (pe_cal cf hr (by rfl) (pa_cons (pv 0) (pa_cons (pv 1) pa_nil))))
      (pss_cons (ps_if (pt_cmpR op_notN (pv 2) pe_non (nomark _)) pss_never pss_nil) (pss_one (ps_ret (pv 0)))), ?_⟩
    refine ⟨_, rfl, _, rfl, m, T, n, f, rfl, hM, tb, hf, hx, fun H1 s1 => ?_⟩
    refine ⟨_, rfl, rfl, _, rfl, iteF ?_⟩
    exact ⟨_, rfl, k _ s1⟩
end
end OWP

/-! ## W7 -/
/-! W7: partings. -/
namespace OWP
open PySem PySem.Spec PyProof.Rows L2 OWR OW
section
variable {κ : Type} [dec : DecidableEq κ]
theorem valV_out {kvs : List (κ × V)} {t : κ} (h : t ∉ kvs.map (·.1)) : valV kvs t = none := by
  induction kvs with
  | nil => rfl
  | cons p r ih =>
    rw [List.map_cons] at h
    rw [valV_neg (fun z => h (by rw [← z]; exact List.mem_cons_self)), ih fun z => h (List.mem_cons_of_mem _ z)]
theorem valV_mem {kvs : List (κ × V)} {t : κ} {v : V} (h : valV kvs t = some v) : t ∈ kvs.map (·.1) := Classical.byContradiction fun z => by rw [valV_out z] at h; cases h
theorem putK_keys (kvs : List (κ × V)) (t : κ) (v : V) (h : valV kvs t ≠ none) : (putK kvs t v).map (·.1) = kvs.map (·.1) := by
  unfold putK
  rw [valV_any]
  cases q : valV kvs t with
  | none => exact absurd q h
  | some x =>
    rw [if_pos (show (some x).isSome = true from rfl), List.map_map]
    refine List.map_congr_left (fun p _ => ?_)
    show (if p.1 = t then (p.1, v) else p).1 = p.1
    by_cases e : p.1 = t
    · rw [if_pos e]
    · rw [if_neg e]
theorem putK_keysN (kvs : List (κ × V)) (t : κ) (v : V) (h : valV kvs t = none) : (putK kvs t v).map (·.1) = kvs.map (·.1) ++ [t] := by
  rw [putK_new v h, List.map_append]; rfl
end
/-- homes h, the lots' own things r -/
structure Fo {τ : Type} (L : List τ) (h r : τ → τ) : Prop where
  mem : ∀ t, t ∈ L → h t ∈ L
  rmem : ∀ t, t ∈ L → r t ∈ L
  rk : ∃ rk : τ → Nat, ∀ t, t ∈ L → h t ≠ t → rk (h t) < rk t
  step : ∀ t, t ∈ L → r (h t) = r t
  base : ∀ t, t ∈ L → h t = t → r t = t
  fix : ∀ t, t ∈ L → h (r t) = r t
theorem Fo.start {τ : Type} (L : List τ) : Fo L id id := ⟨fun _ h => h, fun _ h => h, ⟨fun _ => 0, fun t _ h => absurd rfl h⟩, fun _ _ => rfl, fun _ _ _ => rfl, fun _ _ => rfl⟩
theorem Fo.rr {τ : Type} {L : List τ} {h r : τ → τ} (f : Fo L h r) {t : τ} (ht : t ∈ L) : r (r t) = r t := f.base _ (f.rmem t ht) (f.fix t ht)
/-- homes behind: a's lot goes to b's own thing .. -/
def setH {τ : Type} [DecidableEq τ] (h : τ → τ) (b a : τ) : τ → τ := fun x => if x = b then a else h x
def setR {τ : Type} [DecidableEq τ] (r : τ → τ) (b a : τ) : τ → τ := fun x => if r x = b then a else r x
theorem Fo.unite {τ : Type} [DecidableEq τ] {L : List τ} {h r : τ → τ} (f : Fo L h r) {a b : τ} (ha : a ∈ L) (hb : b ∈ L) : Fo L (setH h (r b) (r a)) (setR r (r b) (r a)) := by
  have fa := f.rmem a ha
  have fb := f.rmem b hb
  have raa := f.rr ha
  have rbb := f.rr hb
  refine ⟨fun t ht => ?_, fun t ht => ?_, ?_, fun t ht => ?_, fun t ht e => ?_, fun t ht => ?_⟩
  · unfold setH; split
    · exact fa
    · exact f.mem t ht
  · unfold setR; split
    · exact fa
    · exact f.rmem t ht
  · obtain ⟨rk, hrk⟩ := f.rk
    refine ⟨fun x => if r x = r b ∧ r a ≠ r b then rk x + rk (r a) + 1 else rk x, fun t ht hne => ?_⟩
    unfold setH at hne ⊢
    dsimp only
    by_cases e : t = r b
    · subst e
      rw [if_pos rfl] at hne ⊢
      rw [rbb, raa, if_neg (fun z => hne z.1), if_pos ⟨rfl, hne⟩]
      omega
    · rw [if_neg e] at hne ⊢
      have h1 := hrk t ht hne
      rw [f.step t ht]
      split <;> omega
  · unfold setR setH
    by_cases e : t = r b
    · rw [if_pos e, raa, e, rbb, if_pos rfl]
      split <;> rfl
    · rw [if_neg e, f.step t ht]
  · unfold setH at e
    unfold setR
    by_cases q : t = r b
    · rw [if_pos q] at e; rw [q, rbb, if_pos rfl]; exact e.trans q
    · rw [if_neg q] at e
      have z := f.base t ht e
      rw [z, if_neg q]
  · unfold setR setH
    by_cases q : r t = r b
    · rw [if_pos q]
      split
      · rfl
      · exact f.fix a ha
    · rw [if_neg q, if_neg q]; exact f.fix t ht
/-- a parting stands at p -/
structure PartAt {τ : Type} [DecidableEq τ] (G : Thg τ) (C : Addr) (H : Hp) (p d : Addr) (L : List τ) (h r : τ → τ) : Prop where
  ob : ∃ dx, H p = some (.ins C dx (putF "homes" (.ref d) []))
  dc : ∃ kvs, H d = some (G.dic kvs) ∧ kvs.map (·.1) = L ∧ ∀ t, t ∈ L → ∃ v, valV kvs t = some v ∧ G.rep H v (h t)
  fo : Fo L h r
theorem PartAt.keep {τ : Type} [DecidableEq τ] {G : Thg τ} {C : Addr} {H H' : Hp} {p d : Addr} {L : List τ} {h r : τ → τ} (x : PartAt G C H p d L h r) (kp : ∀ o, H p = some o → H' p = some o) (kd : ∀ o, H d = some o → H' d = some o) (kt : TK H H') : PartAt G C H' p d L h r := by
  obtain ⟨dx, hp⟩ := x.ob
  obtain ⟨kvs, hd, e, a⟩ := x.dc
  exact ⟨⟨dx, kp _ hp⟩, ⟨kvs, kd _ hd, e, fun t ht => let ⟨v, e1, e2⟩ := a t ht; ⟨v, e1, G.keep kt e2⟩⟩, x.fo⟩
structure PartC (K : PySem.W.Frag) (C : Addr) : Prop where
  cl : Cls K C
  hm : NoAttr K C "homes"
section
variable {P : Program} {w : World} {K : PySem.W.Frag} {mg : Str → Option Value} {base : Heap} {CP : Addr} {τ : Type} [DecidableEq τ] {G : Thg τ}
abbrev sPInit : Stmt := inClass (topS 31) 0
abbrev sPHome : Stmt := inClass (topS 31) 1
abbrev sPUnite : Stmt := inClass (topS 31) 2
abbrev sPLots : Stmt := inClass (topS 31) 3
def spPInit (G : Thg τ) (CP : Addr) : Sp := fun vs H Q _ => ∃ (p dx a : Addr) (ks : List V) (L : List τ), vs = [.ref p, .ref a] ∧ H p = some (.ins CP dx []) ∧ H a = some (.lst ks) ∧ Paired (G.rep H) ks L ∧ L.Nodup ∧ L.length ≤ 100 ∧
  ∀ d H', (∀ b o, H b = some o → b ≠ p → H' b = some o) → H d = none → PartAt G CP H' p d L id id → Q .non H'
theorem scPInit : FnScope ["self", "things", "thing"] ["self", "things"] (defScope sPInit) := ⟨rfl, rfl, rfl, by decide +kernel, rfl, by decide +kernel, by decide +kernel⟩
theorem ok_pinit {f : Addr} {fd : FuncData} (F : Fun K "__init__" "Parting.__init__" sPInit f fd) (T : PartC K CP) : FnOk P w K mg base CX0 1 f fd ["self", "things"] (spPInit G CP) := by
  refine F.ok scPInit (fun vs H Q E h => ?_) (fun cdv A outer s H vs Q E hr h => ?_)
  · obtain ⟨p, dx, a, ks, L, rfl, _⟩ := h; rfl
  · obtain ⟨p, dx, a, ks, L, rfl, hp, ha, hks, nd, hl, k⟩ := h
    have hu := hu_of hr
    refine ⟨_, pss_one (ps_fld (pv 0) (pe_dcA (own := [("thing", 2)]) (g := gName 2) (tt := tYes) (tk := tVar 2) (tv := tVar 2) (G.dic []) G.e0 hr.units0 rfl scPInit.nd (pi_list (pv 1)) (blkOk_by (N := ["self", "things", "thing"]) (sc := defScope sPInit) (by decide +kernel))
      (fun _ _ _ _ _ => pg_name (i := 2) scPInit.nd rfl (Or.inl rfl)) (fun _ _ _ _ _ => pts_nil) (fun _ _ _ _ _ => pv 2) (fun _ _ _ _ _ => pv 2)) rfl), ?_⟩
    refine ⟨_, rfl, a, rfl, ⟨_, .of ha⟩, fun D hD => ?_⟩
    have lk : ks.length = L.length := plen hks
    refine dc_it (walk_list (xs := ks)) (fun i H2 => Same H H2 ∧ ∃ kvs : List (τ × V), H2 D = some (G.dic kvs) ∧ kvs.map (·.1) = L.take i ∧ ∀ t, t ∈ L.take i → ∃ v, valV kvs t = some v ∧ G.rep H2 v t) ⟨Same.upd hD, [], upd_same, by simp, fun t ht => by simp at ht⟩ (fun i H2 _ q => .of (q.1 _ _ ha)) ?_ ?_
    · rintro i x H2 H3 hi ⟨s2, kvs, d2, e2, a2⟩ ⟨rfl, hx⟩
      obtain ⟨t, ht, rt⟩ := pget hks hx
      have r3 : G.rep H3 x t := G.keep (.of s2) rt
      have hil : i < L.length := (List.getElem?_eq_some_iff.mp ht).1
      have hnot : t ∉ L.take i := fun hm => by
        obtain ⟨j, hj, ej⟩ := List.getElem_of_mem hm
        have hj' : j < i := by rw [List.length_take] at hj; omega
        have : L[j]? = some t := by rw [← ej, List.getElem_take]; exact List.getElem?_eq_getElem _
        have := nd_ix nd this ht
        omega
      have hn : valV kvs t = none := valV_out (by rw [e2]; exact hnot)
      have lenk : kvs.length ≤ 100 := by
        have := congrArg List.length e2
        rw [List.length_map, List.length_take] at this
        omega
      have kt := G.tk d2 (o := G.dic (putK kvs t x))
      refine ⟨rfl, yes ⟨_, rfl, _, rfl, _, G.put d2 r3 (small1000 (by omega)), s2.mut hD, _, upd_same, ?_, fun t' ht' => ?_⟩⟩
      · rw [putK_keysN _ _ _ hn, e2, List.take_add_one, ht]; rfl
      · rw [valV_put]
        by_cases q : t' = t
        · rw [if_pos q, q]; exact ⟨x, rfl, G.keep kt r3⟩
        · rw [if_neg q]
          rw [List.take_add_one, ht] at ht'
          rcases List.mem_append.mp ht' with z | z
          · obtain ⟨v, v1, v2⟩ := a2 t' z
            exact ⟨v, v1, G.keep kt v2⟩
          · simp at z; exact absurd z q
    · rintro H2 ⟨s2, kvs, d2, e2, a2⟩
      rw [lk, List.take_length] at e2 a2
      have hp2 := s2 _ _ hp
      have npD : D ≠ p := fun z => by subst z; rw [hD] at hp; cases hp
      refine ⟨_, rfl, p, CP, dx, _, rfl, hp2, T.cl, T.hm, (by show 0 < 1000; decide), ?_⟩
      have kt : TK H2 (upd H2 p (.ins CP dx (putF "homes" (.ref D) []))) := TK.mut hp2 (fun _ z => nomatch z)
      refine k D _ (fun b o eb hb => by rw [upd_ne hb]; exact s2 _ _ eb) hD ⟨⟨dx, upd_same⟩, ⟨kvs, by rw [upd_ne npD]; exact d2, e2, fun t ht => ?_⟩, Fo.start L⟩
      obtain ⟨v, v1, v2⟩ := a2 t ht
      exact ⟨v, v1, G.keep kt v2⟩
def spPHome (G : Thg τ) (CP : Addr) : Sp := fun vs H Q _ => ∃ (p d : Addr) (v : V) (L : List τ) (h r : τ → τ) (t : τ), vs = [.ref p, v] ∧ PartAt G CP H p d L h r ∧ t ∈ L ∧ G.rep H v t ∧ ∀ v', G.rep H v' (r t) → Q v' H
theorem scPHome : FnScope ["self", "thing"] ["self", "thing"] (defScope sPHome) := ⟨rfl, rfl, rfl, by decide +kernel, rfl, by decide +kernel, by decide +kernel⟩
theorem ok_phome {f : Addr} {fd : FuncData} (F : Fun K "home" "Parting.home" sPHome f fd) (T : PartC K CP) : FnOk P w K mg base CX0 1 f fd ["self", "thing"] (spPHome G CP) := by
  refine F.ok scPHome (fun vs H Q E h => ?_) (fun cdv A outer s H vs Q E hr h => ?_)
  · obtain ⟨p, d, v, L, h, r, t, rfl, _⟩ := h; rfl
  · obtain ⟨p, d, v, L, h, r, t, rfl, pa, ht, rt, k⟩ := h
    have hu := hu_of hr
    obtain ⟨dx, hp⟩ := pa.ob
    obtain ⟨kvs, hd, ek, ak⟩ := pa.dc
    obtain ⟨rk, hrk⟩ := pa.fo.rk
    refine ⟨_, pss_cons (ps_while PassesOwn.never (pt_cmpR (op_neD hr.units) (pe_dget hu (pe_fld (pv 0) rfl) (pv 1) (fun _ _ => rfl)) (pv 1) (nomark _))
      (pss_one (ps_set (i := 1) scPHome.nd rfl (Or.inl rfl) (pe_dget hu (pe_fld (pv 0) rfl) (pv 1) (fun _ _ => rfl)))))
      (pss_one (ps_ret (pv 1))), ?_⟩
    refine ⟨fun m σ H1 => H1 = H ∧ ∃ x v, m = rk x ∧ σ = [some (.ref p), some v] ∧ x ∈ L ∧ G.rep H v x ∧ r x = r t, ⟨_, rfl, t, v, rfl, rfl, ht, rt, rfl⟩, ?_⟩
    rintro m σ H1 ⟨rfl, x, v, rfl, rfl, hx, rx, ex⟩
    obtain ⟨y, y1, y2⟩ := ak x hx
    have gx := G.get hd rx
    rw [y1] at gx
    refine ⟨_, rfl, p, CP, dx, _, _, rfl, hp, T.cl, T.hm, lk0, _, rfl, d, y, rfl, gx, _, rfl, G.dat (h x), G.dat x, G.dp y2, G.dp rx, G.shaped _, G.shaped _, _, rfl, ?_⟩
    rw [G.eqv]
    by_cases e : h x = x
    · rw [decide_eq_true e]
      refine iteF ⟨_, rfl, ?_⟩
      refine k v ?_
      rw [← ex, pa.fo.base x hx e]; exact rx
    · rw [decide_eq_false e]
      refine iteT ⟨fun σ' H' => H' = H1 ∧ ∃ v, σ' = [some (.ref p), some v] ∧ G.rep H1 v (h x), fun σ' H' ⟨e1, v, e2, e3⟩ => ⟨rk (h x), hrk x hx e, e1, h x, v, rfl, e2, pa.fo.mem x hx, e3, (pa.fo.step x hx).trans ex⟩, ?_⟩
      refine ⟨_, rfl, p, CP, dx, _, _, rfl, hp, T.cl, T.hm, lk0, _, rfl, d, y, rfl, gx, rfl, y, rfl, y2⟩
def spPUnite (G : Thg τ) (CP : Addr) : Sp := fun vs H Q _ => ∃ (p d : Addr) (v u : V) (L : List τ) (h r : τ → τ) (a b : τ), vs = [.ref p, v, u] ∧ PartAt G CP H p d L h r ∧ L.length ≤ 100 ∧ a ∈ L ∧ b ∈ L ∧ G.rep H v a ∧ G.rep H u b ∧
  ∀ H', (∀ c o, H c = some o → c ≠ d → H' c = some o) → TK H H' → PartAt G CP H' p d L (setH h (r b) (r a)) (setR r (r b) (r a)) → Q (.bl (!decide (r a = r b))) H'
theorem scPUnite : FnScope ["self", "one", "other", "here", "there"] ["self", "one", "other"] (defScope sPUnite) := ⟨rfl, rfl, rfl, by decide +kernel, rfl, by decide +kernel, by decide +kernel⟩
theorem ok_punite {f : Addr} {fd : FuncData} (F : Fun K "unite" "Parting.unite" sPUnite f fd) (T : PartC K CP) (mh : Mth P w K mg base CP "home" 1 ["self", "thing"] (spPHome G CP)) : FnOk P w K mg base CX0 2 f fd ["self", "one", "other"] (spPUnite G CP) := by
  refine F.ok scPUnite (fun vs H Q E h => ?_) (fun cdv A outer s H vs Q E hr h => ?_)
  · obtain ⟨p, d, v, u, L, h, r, a, b, rfl, _⟩ := h; rfl
  · obtain ⟨p, d, v, u, L, h, r, a, b, rfl, pa, hL, ha, hb, ra, rb, k⟩ := h
    have hu := hu_of hr
    obtain ⟨dx, hp⟩ := pa.ob
    obtain ⟨kvs, hd, ek, ak⟩ := pa.dc
    have nh : ∀ x : V, (putF "homes" x []).lookup ("home" : Str) = none := fun x => lk1 (by decide +kernel) rfl
    refine ⟨_, pss_cons (ps_par (i := 3) (j := 4) rfl scPUnite.nd rfl rfl (by decide) rfl rfl (pa_cons (pe_mth (pv 0) T.cl mh hr (pa_cons (pv 1) pa_nil)) (pa_cons (pe_mth (pv 0) T.cl mh hr (pa_cons (pv 2) pa_nil)) pa_nil)) (by rfl))
      (pss_cons (ps_dput hu (pe_fld (pv 0) rfl) (pv 4) (pv 3) rfl)
      (pss_one (ps_ret (pe_cmpR (op_neD hr.units) (pv 3) (pv 4) (nomark _))))), ?_⟩
    refine ⟨_, rfl, p, dx, _, rfl, hp, nh _, _, rfl, p, d, v, L, h, r, a, rfl, pa, ha, ra, fun va rva => ?_⟩
    refine ⟨_, rfl, p, dx, _, rfl, hp, nh _, _, rfl, p, d, u, L, h, r, b, rfl, pa, hb, rb, fun vb rvb => ?_⟩
    have fb := pa.fo.rmem b hb
    obtain ⟨y, y1, y2⟩ := ak (r b) fb
    have lenk : kvs.length ≤ 100 := by rw [← List.length_map (f := (·.1)), ek]; exact hL
    refine ⟨va, vb, rfl, _, rfl, _, rfl, p, CP, dx, _, _, rfl, hp, T.cl, T.hm, lk0, _, rfl, d, _, rfl, G.put hd rvb (small1000 (by omega)), ?_⟩
    have kt := G.tk hd (o := G.dic (putK kvs (r b) va))
    have npd : p ≠ d := ne_of hp hd fun z => G.nins _ _ _ _ z.symm
    refine ⟨_, rfl, _, rfl, G.dat (r a), G.dat (r b), G.dp (G.keep kt rva), G.dp (G.keep kt rvb), G.shaped _, G.shaped _, ?_⟩
    rw [G.eqv]
    refine k _ (fun c o ec hc => by rw [upd_ne hc]; exact ec) kt ⟨⟨dx, by rw [upd_ne npd]; exact hp⟩, ⟨_, upd_same, ?_, fun t ht => ?_⟩, pa.fo.unite ha hb⟩
    · rw [putK_keys _ _ _ (by rw [y1]; exact fun z => nomatch z), ek]
    · rw [valV_put]
      unfold setH
      by_cases q : t = r b
      · rw [if_pos q, if_pos q]; exact ⟨va, rfl, G.keep kt rva⟩
      · rw [if_neg q, if_neg q]
        obtain ⟨z, z1, z2⟩ := ak t ht
        exact ⟨z, z1, G.keep kt z2⟩
end
end OWP

/-! ## W8 -/
/-! W8: all lots. -/
namespace OWP
open PySem PySem.Spec PyProof.Rows L2 OWR OW
theorem perm_paired {α β : Type} {R : α → β → Prop} {ks ys : List α} (h : ys.Perm ks) : ∀ {L : List β}, Paired R ks L → ∃ L', Paired R ys L' ∧ L'.Perm L := by
  induction h with
  | nil => intro L p; cases p; exact ⟨[], .nil, .nil⟩
  | cons x _ ih =>
    intro L p
    cases p with
    | cons r t =>
      obtain ⟨L', p', q'⟩ := ih t
      exact ⟨_ :: L', .cons r p', q'.cons _⟩
  | swap x y l =>
    intro L p
    cases p with
    | cons r t =>
      cases t with
      | cons r2 t2 => exact ⟨_, .cons r2 (.cons r t2), List.Perm.swap _ _ _⟩
  | trans _ _ ih1 ih2 =>
    intro L p
    obtain ⟨L1, p1, q1⟩ := ih2 p
    obtain ⟨L2, p2, q2⟩ := ih1 p1
    exact ⟨L2, p2, q2.trans q1⟩
theorem psnoc {α β : Type} {R : α → β → Prop} {xs : List α} {ys : List β} (h : Paired R xs ys) {a : α} {b : β} (r : R a b) : Paired R (xs ++ [a]) (ys ++ [b]) := Paired.snoc h r
def tDNewA (o0 : HO) : TE := fun _ H Q => ∀ p, H p = none → Q (.ref p) (upd H p o0)
theorem pe_dnewA {X : Cx} {o0 : HO} {pos : Pos} (e : E0 o0) : PE X (.Dict [] [] pos) (tDNewA o0) := by
  cases e with
  | k => exact pe_dnewK
  | t => exact pe_dnewT
/-- a lot, as a tuple of its things -/
def LotRep {τ : Type} [DecidableEq τ] (G : Thg τ) (H : Hp) (v : V) (lot : List τ) : Prop := ∃ a xs, v = .ref a ∧ H a = some (.tup xs) ∧ Paired (G.rep H) xs lot
theorem LotRep.keep {τ : Type} [DecidableEq τ] {G : Thg τ} {H H' : Hp} {v : V} {lot : List τ} (h : LotRep G H v lot) (k : TK H H') : LotRep G H' v lot := let ⟨a, xs, e, x, p⟩ := h; ⟨a, xs, e, k _ _ x, pmap p fun _ _ r => G.keep k r⟩
structure LotsOk {τ : Type} (L : List τ) (r : τ → τ) (lots : List (List τ)) : Prop where
  lot : ∀ lot, lot ∈ lots → lot ≠ [] ∧ lot.Nodup ∧ ∃ c, ∀ t, t ∈ lot ↔ (t ∈ L ∧ r t = c)
  all : ∀ t, t ∈ L → ∃ lot, lot ∈ lots ∧ t ∈ lot
  len : lots.length ≤ L.length
theorem alikeAll_map {τ : Type} [DecidableEq τ] (G : Thg τ) : ∀ xs ys : List τ, PySem.W.alikeAll (xs.map G.dat) (ys.map G.dat) = true
  | [], _ => by simp [PySem.W.alikeAll]
  | _ :: _, [] => by simp [PySem.W.alikeAll]
  | x :: xs, y :: ys => by
    show PySem.W.alikeAll (G.dat x :: xs.map G.dat) (G.dat y :: ys.map G.dat) = true
    rw [PySem.W.alikeAll, alikeAll_map G xs ys, G.alike]; rfl
theorem depthAll_map {τ : Type} [DecidableEq τ] (G : Thg τ) : ∀ xs : List τ, PyData.depthAll (xs.map G.dat) ≤ 1
  | [] => by rw [List.map_nil, PyData.depthAll]; exact Nat.zero_le 1
  | x :: xs => by
    show PyData.depthAll (G.dat x :: xs.map G.dat) ≤ 1
    rw [PyData.depthAll]
    have := depthAll_map G xs
    have := G.depth x
    omega
theorem dps {τ : Type} [DecidableEq τ] {G : Thg τ} {K : PySem.W.Frag} {H : Hp} : ∀ {xs : List V} {ts : List τ}, Paired (G.rep H) xs ts → DpAll K H xs (ts.map G.dat)
  | _, _, .nil => .nil
  | _, _, .cons r t => .cons (G.dp r) (dps t)
theorem LotRep.dp {τ : Type} [DecidableEq τ] {G : Thg τ} {K : PySem.W.Frag} {H : Hp} {v : V} {lot : List τ} (h : LotRep G H v lot) : Dp K H v (.tuple (lot.map G.dat)) := by
  obtain ⟨a, xs, rfl, x, p⟩ := h
  exact .tup (.inl (.inl x)) (dps p)
/-- what sorted asks, of things that stand for something -/
theorem zip_dat {β : Type} {R : V → β → Prop} {enc : β → PyData} {ks : List V} {bs : List β} (p : Paired R ks bs) : (ks.zip (bs.map enc)).map (·.1) = ks ∧ (ks.zip (bs.map enc)).map (·.2) = bs.map enc ∧ ∀ q, q ∈ ks.zip (bs.map enc) → ∃ k b, q = (k, enc b) ∧ R k b ∧ b ∈ bs := by
  induction p with
  | nil => exact ⟨rfl, rfl, fun q hq => nomatch hq⟩
  | @cons a b l₁ l₂ r t ih =>
    obtain ⟨h1, h2, h3⟩ := ih
    refine ⟨?_, ?_, fun q hq => ?_⟩
    · show a :: (l₁.zip (l₂.map enc)).map (·.1) = a :: l₁; rw [h1]
    · show enc b :: (l₁.zip (l₂.map enc)).map (·.2) = enc b :: l₂.map enc; rw [h2]
    · rcases List.mem_cons.mp (show q ∈ (a, enc b) :: l₁.zip (l₂.map enc) from hq) with e | hq
      · exact ⟨a, b, e, r, List.mem_cons_self⟩
      · obtain ⟨k, b', e, r', hb⟩ := h3 q hq
        exact ⟨k, b', e, r', List.mem_cons_of_mem _ hb⟩
section
variable {P : Program} {w : World} {K : PySem.W.Frag} {mg : Str → Option Value} {base : Heap} {CP : Addr} {τ : Type} [DecidableEq τ] {G : Thg τ}
def entA {τ : Type} (as : List (τ × Addr)) : List (τ × V) := as.map fun q => (q.1, V.ref q.2)
theorem entA_keys {τ : Type} (as : List (τ × Addr)) : (entA as).map (·.1) = as.map (·.1) := by unfold entA; rw [List.map_map]; rfl
theorem entA_vals {τ : Type} (as : List (τ × Addr)) : (entA as).map (·.2) = as.map (fun q => V.ref q.2) := by unfold entA; rw [List.map_map]; rfl
theorem entA_val {as : List (τ × Addr)} {c : τ} {v : V} (h : valV (entA as) c = some v) : ∃ l, v = .ref l ∧ (c, l) ∈ as := by
  induction as with
  | nil => cases h
  | cons q as ih =>
    by_cases e : q.1 = c
    · rw [show entA (q :: as) = (q.1, V.ref q.2) :: entA as from rfl, valV_pos e] at h
      cases h
      exact ⟨q.2, rfl, by rw [← e]; exact List.mem_cons_self⟩
    · rw [show entA (q :: as) = (q.1, V.ref q.2) :: entA as from rfl, valV_neg e] at h
      obtain ⟨l, h1, h2⟩ := ih h
      exact ⟨l, h1, List.mem_cons_of_mem _ h2⟩
/-- what the walk over the things has laid: by lot a list of its own -/
structure LI (G : Thg τ) (H H2 : Hp) (fnd : Addr) (r : τ → τ) (done : List τ) (as : List (τ × Addr)) : Prop where
  same : Same H H2
  f0 : H fnd = none
  dc : H2 fnd = some (G.dic (entA as))
  ndk : (as.map (·.1)).Nodup
  nda : (as.map (·.2)).Nodup
  at' : ∀ q, q ∈ as → H q.2 = none ∧ ∃ xs, H2 q.2 = some (.lst xs) ∧ Paired (G.rep H2) xs (done.filter fun t => decide (r t = q.1))
  cov : ∀ t, t ∈ done → r t ∈ as.map (·.1)
  ne : ∀ q, q ∈ as → ∃ t, t ∈ done ∧ r t = q.1
theorem LI.old {H H2 : Hp} {fnd : Addr} {r : τ → τ} {done : List τ} {as : List (τ × Addr)} (I : LI G H H2 fnd r done as) {t : τ} {x : V} {l e : Addr} {xs : List V} (hl : (r t, l) ∈ as) (hx : G.rep H2 x t) (he : H2 e = none) (hxs : H2 l = some (.lst xs)) :
    LI G H (upd (upd H2 e (.lst [])) l (.lst (xs ++ [x]))) fnd r (done ++ [t]) as := by
  obtain ⟨hl0, xs', hxs', pl⟩ := I.at' _ hl
  rw [hxs] at hxs'
  cases hxs'
  have nle : l ≠ e := ne_of_none hxs he
  have nlf : fnd ≠ l := ne_of I.dc hxs fun z => G.nlst _ _ z
  have nfe : fnd ≠ e := ne_of_none I.dc he
  have k1 : TK H2 (upd H2 e (.lst [])) := TK.new he
  have k2 : TK (upd H2 e (.lst [])) (upd (upd H2 e (.lst [])) l (.lst (xs ++ [x]))) := TK.mut (u := .lst xs) (by rw [upd_ne nle]; exact hxs) (fun _ z => nomatch z)
  have k := k1.trans k2
  refine ⟨(I.same.new he).mut hl0, I.f0, by rw [upd_ne nlf, upd_ne nfe]; exact I.dc, I.ndk, I.nda, fun q hq => ⟨(I.at' q hq).1, ?_⟩, fun u hu => ?_, fun q hq => ?_⟩
  · obtain ⟨_, ys, hys, py⟩ := I.at' q hq
    by_cases e1 : q.2 = l
    · have eq : q = (r t, l) := by
        have h1 := List.getElem_of_mem hq
        have h2 := List.getElem_of_mem hl
        obtain ⟨i, hi, ei⟩ := h1
        obtain ⟨j, hj, ej⟩ := h2
        have a1 : (as.map (·.2))[i]? = some l := by rw [List.getElem?_map, List.getElem?_eq_getElem hi, ei]; exact congrArg some e1
        have a2 : (as.map (·.2))[j]? = some l := by rw [List.getElem?_map, List.getElem?_eq_getElem hj, ej]; rfl
        have := nd_ix I.nda a1 a2
        subst this
        rw [← ei, ← ej]
      subst eq
      refine ⟨xs ++ [x], by rw [upd_same], ?_⟩
      rw [List.filter_append, List.filter_cons, if_pos (decide_eq_true rfl), List.filter_nil]
      exact psnoc (pmap pl fun _ _ z => G.keep k z) (G.keep k hx)
    · refine ⟨ys, by rw [upd_ne e1, upd_ne (ne_of_none hys he)]; exact hys, ?_⟩
      have hne : ¬ r t = q.1 := fun z => by
        obtain ⟨i, hi, ei⟩ := List.getElem_of_mem hq
        obtain ⟨j, hj, ej⟩ := List.getElem_of_mem hl
        have a1 : (as.map (·.1))[i]? = some (r t) := by rw [List.getElem?_map, List.getElem?_eq_getElem hi, ei]; exact congrArg some z.symm
        have a2 : (as.map (·.1))[j]? = some (r t) := by rw [List.getElem?_map, List.getElem?_eq_getElem hj, ej]; rfl
        have := nd_ix I.ndk a1 a2
        subst this
        exact e1 (by rw [← ei, ej])
      rw [List.filter_append, List.filter_cons, if_neg (by rw [decide_eq_false hne]; decide), List.filter_nil, List.append_nil]
      exact pmap py fun _ _ z => G.keep k z
  · obtain z | z := List.mem_append.mp hu
    · exact I.cov u z
    · rw [List.mem_singleton.mp z]; exact List.mem_map.mpr ⟨_, hl, rfl⟩
  · obtain ⟨u, hu, eu⟩ := I.ne q hq
    exact ⟨u, List.mem_append_left _ hu, eu⟩
theorem LI.fresh {H H2 : Hp} {fnd : Addr} {r : τ → τ} {done : List τ} {as : List (τ × Addr)} (I : LI G H H2 fnd r done as) {t : τ} {x : V} {e : Addr} (hn : valV (entA as) (r t) = none) (hx : G.rep H2 x t) (he : H2 e = none) :
    LI G H (upd (upd (upd H2 e (.lst [])) fnd (G.dic (putK (entA as) (r t) (.ref e)))) e (.lst [x])) fnd r (done ++ [t]) (as ++ [(r t, e)]) := by
  have nfe : fnd ≠ e := ne_of_none I.dc he
  have hnk : r t ∉ as.map (·.1) := fun z => by
    rw [← entA_keys] at z
    obtain ⟨p, hp, ep⟩ := List.mem_map.mp z
    have : ∀ {l : List (τ × V)}, p ∈ l → valV l p.1 ≠ none := by
      intro l hl
      induction l with
      | nil => cases hl
      | cons a l ih =>
        by_cases q : a.1 = p.1
        · rw [valV_pos q]; exact fun z => nomatch z
        · rw [valV_neg q]
          obtain rfl | hl := List.mem_cons.mp hl
          · exact absurd rfl q
          · exact ih hl
    exact this hp (by rw [ep]; exact hn)
  have hd1 : upd H2 e (.lst []) fnd = some (G.dic (entA as)) := by rw [upd_ne nfe]; exact I.dc
  have k1 : TK H2 (upd H2 e (.lst [])) := TK.new he
  have k2 := G.tk hd1 (o := G.dic (putK (entA as) (r t) (.ref e)))
  have he3 : upd (upd H2 e (.lst [])) fnd (G.dic (putK (entA as) (r t) (.ref e))) e = some (.lst []) := by rw [upd_ne nfe.symm, upd_same]
  have k3 := TK.mut (o := .lst [x]) he3 (fun _ z => nomatch z)
  have k := k1.trans (k2.trans k3)
  have he0 : H e = none := I.same.free he
  have eent : putK (entA as) (r t) (.ref e) = entA (as ++ [(r t, e)]) := by rw [putK_new _ hn]; unfold entA; rw [List.map_append]; rfl
  refine ⟨((I.same.new he).mut I.f0).mut he0, I.f0, by rw [upd_ne nfe, upd_same, eent], ?_, ?_, fun q hq => ?_, fun u hu => ?_, fun q hq => ?_⟩
  · rw [List.map_append]
    exact List.nodup_append.mpr ⟨I.ndk, by simp, fun a ha b hb => by simp at hb; subst hb; exact fun z => hnk (z ▸ ha)⟩
  · rw [List.map_append]
    refine List.nodup_append.mpr ⟨I.nda, by simp, fun a ha b hb => by
      simp at hb; subst hb
      obtain ⟨q, hq, rfl⟩ := List.mem_map.mp ha
      obtain ⟨_, xs, hxs, _⟩ := I.at' q hq
      exact ne_of_none hxs he⟩
  · obtain hq | hq := List.mem_append.mp hq
    · obtain ⟨h0, ys, hys, py⟩ := I.at' q hq
      have n1 : q.2 ≠ e := ne_of_none hys he
      have n2 : q.2 ≠ fnd := ne_of hys I.dc fun z => G.nlst _ _ z.symm
      refine ⟨h0, ys, by rw [upd_ne n1, upd_ne n2, upd_ne n1]; exact hys, ?_⟩
      have hne : ¬ r t = q.1 := fun z => hnk (by rw [z]; exact List.mem_map.mpr ⟨q, hq, rfl⟩)
      rw [List.filter_append, List.filter_cons, if_neg (by rw [decide_eq_false hne]; decide), List.filter_nil, List.append_nil]
      exact pmap py fun _ _ z => G.keep k z
    · rw [List.eq_of_mem_singleton hq]
      refine ⟨he0, [x], upd_same, ?_⟩
      have hnil : done.filter (fun u => decide (r u = r t)) = [] := List.filter_eq_nil_iff.mpr fun u hu z => hnk (by rw [← of_decide_eq_true z]; exact I.cov u hu)
      rw [List.filter_append, hnil, List.filter_cons, if_pos (decide_eq_true rfl), List.filter_nil]
      exact .cons (G.keep k hx) .nil
  · rw [List.map_append]
    obtain z | z := List.mem_append.mp hu
    · exact List.mem_append_left _ (I.cov u z)
    · rw [List.mem_singleton.mp z]; exact List.mem_append_right _ (by simp)
  · obtain hq | hq := List.mem_append.mp hq
    · obtain ⟨u, hu, eu⟩ := I.ne q hq
      exact ⟨u, List.mem_append_left _ hu, eu⟩
    · rw [List.mem_singleton.mp hq]; exact ⟨t, by simp, rfl⟩
end
end OWP

/-! ## W9 -/
/-! W9: all lots: the walk. -/
namespace OWP
open PySem PySem.Spec PyProof.Rows L2 OWR OW
section
variable {P : Program} {w : World} {K : PySem.W.Frag} {mg : Str → Option Value} {base : Heap} {CP : Addr} {τ : Type} [DecidableEq τ] {G : Thg τ}
theorem un1 {k : Nat} {A : Around} (r : Room k A) : A.units + 1 < cLine := by have := r.units; omega
def spPLots (G : Thg τ) (CP : Addr) : Sp := fun vs H Q _ => ∃ (p d : Addr) (L : List τ) (h r : τ → τ), vs = [.ref p] ∧ PartAt G CP H p d L h r ∧ L.Nodup ∧ L.length ≤ 100 ∧
  ∀ q H' us (lots : List (List τ)), Same H H' → H' q = some (.tup us) → Paired (LotRep G H') us lots → LotsOk L r lots → Q (.ref q) H'
theorem scPLots : FnScope ["self", "found", "thing", "lot"] ["self"] (defScope sPLots) := ⟨rfl, rfl, rfl, by decide +kernel, rfl, by decide +kernel, by decide +kernel⟩
theorem ok_plots {f : Addr} {fd : FuncData} (F : Fun K "all_lots" "Parting.all_lots" sPLots f fd) (Z : Gls mg) (T : PartC K CP) (mh : Mth P w K mg base CP "home" 1 ["self", "thing"] (spPHome G CP)) : FnOk P w K mg base CX0 2 f fd ["self"] (spPLots G CP) := by
  refine F.ok scPLots (fun vs H Q E h => ?_) (fun cdv A outer s H vs Q E hr h => ?_)
  · obtain ⟨p, d, L, h, r, rfl, _⟩ := h; rfl
  · obtain ⟨p, d, L, h, r, rfl, pa, hnd, hL, k⟩ := h
    have hu := hu_of hr
    obtain ⟨dx, hp⟩ := pa.ob
    obtain ⟨kvs, hd, ek, ak⟩ := pa.dc
    refine ⟨_, pss_cons (ps_set (i := 1) scPLots.nd rfl (Or.inl rfl) (pe_dnewA G.e0))
      (pss_cons (ps_for PassesOwn.never rfl (pi_list (pe_callB (cr_sortedDat hr.units) (by rfl) Z.sorted (by decide +kernel) (pa_cons (pe_callTy (G.lst rfl) (by rfl) Z.list (by decide +kernel) (pa_cons (pe_fld (pv 0) rfl) pa_nil)) pa_nil))) (pg_name (i := 2) scPLots.nd rfl (Or.inl rfl))
        (pss_one (ps_expr (pe_bm PySem.F.plainAttrs_list PySem.F.slot_list_append PySem.F.type_list_append mt_append
          (pe_dsetdA (un1 hr) (pv 1) (pe_mth (pv 0) T.cl mh hr (pa_cons (pv 2) pa_nil)) (pe_lst pa_nil) ⟨rfl, rfl, rfl, rfl⟩) (pa_cons (pv 2) pa_nil)))))
      (pss_one (ps_ret (pe_callTy call_tuple_of (by rfl) Z.tuple (by decide +kernel) (pa_cons (pe_callB (cr_sortedDat hr.units) (by rfl) Z.sorted (by decide +kernel) (pa_cons
        (pe_lock (pe_lc (own := [("lot", 3)]) (g := gName 3) (tt := tYes) rfl scPLots.nd (pi_valuesA (pv 1)) (blkOk_by (N := ["self", "found", "thing", "lot"]) (sc := defScope sPLots) (by decide +kernel)) (fun _ _ _ _ _ => pg_name (i := 3) scPLots.nd rfl (Or.inl rfl)) (fun _ _ _ _ _ => pts_nil)
            (fun _ _ _ _ _ => pe_callTy (T := "tuple") (r := rTupOf K) (ct_tuple rfl) (by rfl) Z.tuple (by decide +kernel) (pa_cons (pv 3) pa_nil)))) pa_nil)) pa_nil))))), ?_⟩
    intro fnd hf0
    have sf : Same H (upd H fnd (G.dic [])) := Same.upd hf0
    refine ⟨_, rfl, p, CP, dx, _, _, rfl, sf _ _ hp, T.cl, T.hm, lk0, d, kvs, rfl, sf _ _ hd, fun q1 ks hq1 hks => ?_⟩
    rw [ek] at hks
    obtain ⟨z1, z2, z3⟩ := zip_dat (enc := G.dat) hks
    refine ⟨q1, ks.zip (L.map G.dat), rfl, .of (by rw [upd_same, z1]), fun x hx => ?_, ?_, ?_, ?_, fun ys pl hperm hpl => ?_⟩
    · obtain ⟨kk, b, rfl, hr2, _⟩ := z3 x hx
      exact G.dp (G.keep (TK.new hq1) hr2)
    · rw [z2]
      intro a ha b hb
      obtain ⟨x, _, rfl⟩ := List.mem_map.mp ha
      obtain ⟨y, _, rfl⟩ := List.mem_map.mp hb
      exact G.alike x y
    · rw [z2]; exact G.srt L
    · intro x hx
      obtain ⟨kk, b, rfl, _, _⟩ := z3 x hx
      have := G.depth b
      show (G.dat b).depth ≤ 60
      omega
    rw [z1] at hperm
    obtain ⟨L', hys0, hL'⟩ := perm_paired hperm hks
    -- the base heap, without the dict of lots
    have nfq : fnd ≠ q1 := fun z => by rw [z, upd_same] at hq1; cases hq1
    have nfp : fnd ≠ pl := fun z => by rw [z, upd_ne (z ▸ nfq), upd_same] at hpl; cases hpl
    have hq0 : H q1 = none := by rw [upd_ne nfq.symm] at hq1; exact hq1
    have npq : pl ≠ q1 := fun z => by rw [z, upd_same] at hpl; cases hpl
    have hp0 : H pl = none := by rw [upd_ne npq, upd_ne nfp.symm] at hpl; exact hpl
    generalize hH0 : upd (upd H q1 (.lst ks)) pl (.lst ys) = H0
    generalize hHA : upd (upd (upd H fnd (G.dic [])) q1 (.lst ks)) pl (.lst ys) = HA
    have f0 : H0 fnd = none := by rw [← hH0, upd_ne nfp, upd_ne nfq]; exact hf0
    have sA : Same H0 HA := fun b o eb => by
      have nb : b ≠ fnd := fun z => by rw [z, f0] at eb; cases eb
      rw [← hH0] at eb
      rw [← hHA]
      by_cases b1 : b = pl
      · subst b1; rw [upd_same] at eb ⊢; exact eb
      · rw [upd_ne b1] at eb ⊢
        by_cases b2 : b = q1
        · subst b2; rw [upd_same] at eb ⊢; exact eb
        · rw [upd_ne b2] at eb ⊢; rw [upd_ne nb]; exact eb
    have sH : Same H H0 := by rw [← hH0]; exact (Same.upd hq0).new (by rw [upd_ne npq]; exact hp0)
    have hys : Paired (G.rep H0) ys L' := by
      refine pmap hys0 fun a b r => G.keep (fun c zs e => ?_) r
      have nc : c ≠ fnd := fun z => by rw [z, upd_same] at e; exact G.ntup _ _ (Option.some.inj e)
      rw [upd_ne nc] at e
      exact sH _ _ e
    have dA : HA fnd = some (G.dic []) := by rw [← hHA, upd_ne nfp, upd_ne nfq, upd_same]
    have hpl0 : H0 pl = some (.lst ys) := by rw [← hH0, upd_same]
    have LL : ys.length = L'.length := plen hys
    have lL : L'.length ≤ 100 := by rw [hL'.length_eq]; exact hL
    refine ⟨pl, rfl, ⟨_, .of (by rw [← hHA, upd_same])⟩, ?_⟩
    refine for_list (K := K) (a := pl) (xs := ys) (fun i σ H2 => ∃ x as, σ = [some (.ref p), some (.ref fnd), x, none] ∧ LI G H0 H2 fnd r (L'.take i) as)
      ⟨none, [], rfl, ⟨sA, f0, dA, List.nodup_nil, List.nodup_nil, (fun q hq => nomatch hq), (fun t ht => nomatch ht), (fun q hq => nomatch hq)⟩⟩ (fun i σ H2 _ ⟨x, as, _, I⟩ => .of (I.same _ _ hpl0)) ?_ ?_
    · rintro i x σ H2 hx ⟨x0, as, rfl, I⟩
      obtain ⟨t, ht, rt⟩ := pget hys hx
      have rt2 : G.rep H2 x t := G.keep (.of I.same) rt
      have etk : L'.take (i + 1) = L'.take i ++ [t] := by rw [List.take_add_one, ht]; rfl
      have tL : t ∈ L := hL'.mem_iff.mp (List.mem_of_getElem? ht)
      have hp2 := I.same _ _ (sH _ _ hp)
      have hd2 := I.same _ _ (sH _ _ hd)
      have pa2 : PartAt G CP H2 p d L h r := pa.keep (fun o e => I.same _ _ (sH _ _ e)) (fun o e => I.same _ _ (sH _ _ e)) (.of (sH.trans I.same))
      have nas : (entA as).length ≤ 100 := by
        have : ∀ y, y ∈ as.map (·.1) → y ∈ L := fun y hy => by
          obtain ⟨q, hq, rfl⟩ := List.mem_map.mp hy
          obtain ⟨u, hu, eu⟩ := I.ne q hq
          rw [← eu]
          exact pa.fo.rmem u (hL'.mem_iff.mp (List.mem_of_mem_take hu))
        have := nodup_sub I.ndk this
        rw [List.length_map] at this
        unfold entA
        rw [List.length_map]; omega
      refine ⟨_, rfl, fnd, rfl, G.isD I.dc, _, rfl, p, dx, _, rfl, hp2, (lk1 (by decide +kernel) rfl), _, rfl, p, d, x, L, h, r, t, rfl, pa2, tL, rt2, fun v' rv => ?_⟩
      refine ⟨(by show 0 ≤ sizeLine; decide), fun e he => ?_⟩
      have rv3 : G.rep (upd H2 e (.lst [])) v' (r t) := G.keep (TK.new he) rv
      have nfe : fnd ≠ e := ne_of_none I.dc he
      have d3 : upd H2 e (.lst []) fnd = some (G.dic (entA as)) := by rw [upd_ne nfe]; exact I.dc
      refine ⟨_, G.setd d3 rv3 (small1000 (by omega)), fun v hv => ?_, fun hn H4 hput => ?_⟩
      · obtain ⟨l, rfl, hl⟩ := entA_val hv
        obtain ⟨_, xs, hxs, pl'⟩ := I.at' _ hl
        have nle : l ≠ e := ne_of_none hxs he
        have hl3 : upd H2 e (.lst []) l = some (.lst xs) := by rw [upd_ne nle]; exact hxs
        refine ⟨.inl ⟨rfl, _, .of hl3⟩, _, rfl, l, xs, x, rfl, rfl, hl3, ?_, ?_⟩
        · have := plen pl'
          have h2 := List.length_filter_le (fun u => decide (r u = (r t, l).1)) (L'.take i)
          have h3 := List.length_take_le' i L'
          exact small1000 (by omega)
        · exact ⟨_, as, rfl, by rw [etk]; exact I.old hl rt2 he hxs⟩
      · have e4 := G.putI d3 rv3 hput
        subst e4
        have he3 : upd (upd H2 e (.lst [])) fnd (G.dic (putK (entA as) (r t) (.ref e))) e = some (.lst []) := by rw [upd_ne nfe.symm, upd_same]
        refine ⟨.inl ⟨rfl, _, .of he3⟩, _, rfl, e, [], x, rfl, rfl, he3, (by show 0 < sizeLine; decide), ?_⟩
        exact ⟨_, _, rfl, by rw [etk]; exact I.fresh hn rt2 he⟩
    · rintro σ H2 ⟨x0, as, rfl, I⟩
      rw [LL, List.take_length] at I
      refine ⟨fnd, _, I.dc, G.mutb _, fun od => ?_⟩
      generalize hHL : upd H2 fnd (.frz od (G.dic (entA as))) = HL
      have hL1 : HL fnd = some (.frz od (G.dic (entA as))) := by rw [← hHL, upd_same]
      have hL2 : ∀ b o, H2 b = some o → b ≠ fnd → HL b = some o := fun b o eb nb => by rw [← hHL, upd_ne nb]; exact eb
      refine ⟨_, rfl, fnd, od, _, _, rfl, hL1, G.vals _, fun D hD => ?_⟩
      rw [entA_vals]
      have nDf : fnd ≠ D := ne_of_none hL1 hD
      have hD2 : H2 D = none := by rw [← hHL, upd_ne nDf.symm] at hD; exact hD
      let lots : List (List τ) := as.map fun q => L'.filter fun t => decide (r t = q.1)
      have lne : ∀ lot, lot ∈ lots → lot ≠ [] := fun lot hlot z => by
        obtain ⟨q, hq, rfl⟩ := List.mem_map.mp hlot
        obtain ⟨u, hu, eu⟩ := I.ne q hq
        have : u ∈ L'.filter fun t => decide (r t = q.1) := List.mem_filter.mpr ⟨hu, decide_eq_true eu⟩
        rw [z] at this; cases this
      have hlen : (as.map fun q => V.ref q.2).length = as.length := List.length_map _
      have tkL : TK H2 HL := fun b zs e => hL2 b _ e fun z => by rw [z, I.dc] at e; exact G.ntup _ _ (Option.some.inj e)
      refine lc_it walk_valsA (fun i H3 => H3 fnd = some (.frz od (G.dic (entA as))) ∧ (∀ b o, H2 b = some o → b ≠ fnd → H3 b = some o) ∧ TK H2 H3 ∧ ∃ us, H3 D = some (.lst us) ∧ Paired (LotRep G H3) us (lots.take i))
        ⟨by rw [upd_ne nDf]; exact hL1, fun b o eb nb => by rw [upd_ne (ne_of_none eb hD2)]; exact hL2 b o eb nb, tkL.trans (TK.new hD), [], upd_same, .nil⟩ (fun i H3 _ q => q.1) ?_ ?_
      · rintro i x Hx H3 hi ⟨g1, g2, g3, us, g4, g5⟩ ⟨rfl, hx⟩
        rw [List.getElem?_map] at hx
        cases hq : as[i]? with
        | none => rw [hq] at hx; cases hx
        | some q =>
          rw [hq] at hx
          cases hx
          obtain ⟨_, xs, hxs, pxs⟩ := I.at' q (List.mem_of_getElem? hq)
          have nqf : q.2 ≠ fnd := ne_of hxs I.dc fun z => G.nlst _ _ z.symm
          have hxs3 := g2 _ _ hxs nqf
          have lus : us.length ≤ 100 := by
            have := plen g5
            have h2 := List.length_take_le' i lots
            have h3 : lots.length = as.length := List.length_map _
            have : (entA as).length = as.length := List.length_map _
            have h4 : ∀ y, y ∈ as.map (·.1) → y ∈ L := fun y hy => by
              obtain ⟨q, hq, rfl⟩ := List.mem_map.mp hy
              obtain ⟨u, hu, eu⟩ := I.ne q hq
              rw [← eu]
              exact pa.fo.rmem u (hL'.mem_iff.mp hu)
            have h5 := nodup_sub I.ndk h4
            rw [List.length_map] at h5
            omega
          refine ⟨rfl, yes ⟨_, rfl, q.2, xs, rfl, .inl ⟨.of hxs3, fun T hT => ?_⟩⟩⟩
          have nTD : T ≠ D := fun z => by rw [z, g4] at hT; cases hT
          have nTf : T ≠ fnd := fun z => by rw [z, g1] at hT; cases hT
          have g4' : upd H3 T (.tup xs) D = some (.lst us) := by rw [upd_ne nTD.symm]; exact g4
          have k1 : TK H3 (upd H3 T (.tup xs)) := TK.new hT
          have k2 : TK (upd H3 T (.tup xs)) (upd (upd H3 T (.tup xs)) D (.lst (us ++ [V.ref T]))) := TK.lst g4'
          have T0 : H2 T = none := Classical.byContradiction fun z => by
            cases e : H2 T with
            | none => exact z e
            | some o => rw [g2 _ _ e nTf] at hT; cases hT
          refine ⟨us, g4', small1000 (by omega), by rw [upd_ne nDf, upd_ne nTf.symm]; exact g1, fun b o eb nb => ?_, g3.trans (k1.trans k2), _, upd_same, ?_⟩
          · rw [upd_ne (ne_of_none eb hD2), upd_ne (ne_of_none eb T0)]; exact g2 _ _ eb nb
          · have hqi : lots[i]? = some (L'.filter fun t => decide (r t = q.1)) := by show (as.map _)[i]? = _; rw [List.getElem?_map, hq]; rfl
            rw [List.take_add_one, hqi]
            refine psnoc (pmap g5 fun _ _ z => z.keep (k1.trans k2)) ⟨T, xs, rfl, by rw [upd_ne nTD, upd_same], pmap pxs fun _ _ z => G.keep (g3.trans (k1.trans k2)) z⟩
      · rintro H3 ⟨g1, g2, g3, us, g4, g5⟩
        have hll : lots.length = as.length := List.length_map _
        rw [hlen, ← hll, List.take_length] at g5
        refine ⟨g1, ?_⟩
        have kU : TK H3 (upd H3 fnd (G.dic (entA as))) := TK.mut g1 (fun _ z => nomatch z)
        generalize hH4 : upd H3 fnd (G.dic (entA as)) = H4 at kU
        have d4 : H4 D = some (.lst us) := by rw [← hH4, upd_ne nDf.symm]; exact g4
        have s4 : Same H0 H4 := fun b o eb => by
          have nb : b ≠ fnd := fun z => by rw [z, f0] at eb; cases eb
          rw [← hH4, upd_ne nb]
          exact g2 _ _ (I.same _ _ eb) nb
        have p4 := pmap g5 fun _ _ z => z.keep kU
        obtain ⟨y1, y2, y3⟩ := zip_dat (enc := fun lot => PyData.tuple (lot.map G.dat)) p4
        refine ⟨D, us.zip (lots.map fun lot => PyData.tuple (lot.map G.dat)), rfl, .of (by rw [y1]; exact d4), fun x hx => ?_, ?_, ?_, fun x hx => ?_, fun vs q2 hvs hq2 => ?_⟩
        · obtain ⟨kk, b, rfl, hr2, _⟩ := y3 x hx
          exact hr2.dp
        · rw [y2]
          intro a ha b hb
          obtain ⟨x, _, rfl⟩ := List.mem_map.mp ha
          obtain ⟨y, _, rfl⟩ := List.mem_map.mp hb
          show PySem.W.alike (.tuple (x.map G.dat)) (.tuple (y.map G.dat)) = true
          rw [PySem.W.alike]; exact alikeAll_map G x y
        · rw [y2]
          exact .inl fun a ha => by
            obtain ⟨x, hx, rfl⟩ := List.mem_map.mp ha
            cases x with
            | nil => exact absurd rfl (lne _ hx)
            | cons y r => exact ⟨_, _, rfl⟩
        · obtain ⟨kk, b, rfl, _, _⟩ := y3 x hx
          have := depthAll_map G b
          show (PyData.tuple (b.map G.dat)).depth ≤ 60
          rw [PyData.depth]; omega
        · rw [y1] at hvs
          obtain ⟨lots', hp', hl'⟩ := perm_paired hvs p4
          refine ⟨q2, vs, rfl, .inl ⟨.of upd_same, fun q3 hq3 => ?_⟩⟩
          have kF : TK H4 (upd (upd H4 q2 (.lst vs)) q3 (.tup vs)) := (TK.new hq2).trans (TK.new hq3)
          refine k q3 _ vs lots' (sH.trans ((s4.new hq2).new hq3)) upd_same (pmap hp' fun _ _ z => z.keep kF) ⟨fun lot hlot => ?_, fun t ht => ?_, ?_⟩
          · obtain ⟨q, hq, rfl⟩ := List.mem_map.mp (hl'.mem_iff.mp hlot)
            refine ⟨lne _ (hl'.mem_iff.mp hlot), (hL'.nodup_iff.mpr hnd).filter _, q.1, fun t => ?_⟩
            · rw [List.mem_filter, hL'.mem_iff]
              exact ⟨fun z => ⟨z.1, of_decide_eq_true z.2⟩, fun z => ⟨z.1, decide_eq_true z.2⟩⟩
          · obtain ⟨q, hq, eq⟩ := List.mem_map.mp (I.cov t (hL'.mem_iff.mpr ht))
            exact ⟨_, hl'.mem_iff.mpr (List.mem_map.mpr ⟨q, hq, rfl⟩), List.mem_filter.mpr ⟨hL'.mem_iff.mpr ht, decide_eq_true eq.symm⟩⟩
          · have h4 : ∀ y, y ∈ as.map (·.1) → y ∈ L := fun y hy => by
              obtain ⟨q, hq, rfl⟩ := List.mem_map.mp hy
              obtain ⟨u, hu, eu⟩ := I.ne q hq
              rw [← eu]
              exact pa.fo.rmem u (hL'.mem_iff.mp hu)
            have h5 := nodup_sub I.ndk h4
            rw [List.length_map] at h5
            rw [hl'.length_eq]; omega
end
end OWP

/-! ## W10 -/
/-! W10: all pairs; what is told to be one. -/
namespace OWP
open PySem PySem.Spec PyProof.Rows L2 OWR OW
theorem yN {i : Nat} {x : V} (h : x = (fun i : Nat => V.int (0 + (i : Int))) i) : x = vN i := by rw [h]; show V.int (0 + (i : Int)) = V.int (i : Int); rw [Int.zero_add]
section
/-- what an inner turn owes: the item goes to the list at D, or it is left out -/
abbrev InTurn (g1 : TG) (tt1 : L2.TT) (te : TE) (vs1 : List Nat) (σ2 : L2.St) (D : Addr) (x : V) (H : Hp) (next : Hp → Prop) : Prop :=
  g1 x (wipe σ2 vs1) H fun σ3 H5 => wipe σ3 vs1 = wipe σ2 vs1 ∧ tt1 σ3 H5 fun b H6 => if b = true then te σ3 H6 fun y H7 => ∃ acc, H7 D = some (.lst acc) ∧ acc.length < sizeLine ∧ next (upd H7 D (.lst (acc ++ [y]))) else next H6
/-- all of an inner walk, last the rest -/
abbrev InAll (g1 : TG) (tt1 : L2.TT) (te : TE) (vs1 : List Nat) (σ2 : L2.St) (D : Addr) (J1 : L2.It) (H4 : Hp) (last : Hp → Prop) : Prop :=
  ∃ V1 : Nat → Nat → Hp → Prop, (∃ m, V1 0 m H4) ∧ ∀ j k H, V1 j k H → (J1.stop j H ∧ last H) ∨ (J1.go j H ∧ ∃ next : Hp → Prop, (∀ H', next H' → ∃ k', k' < k ∧ V1 (j + 1) k' H') ∧ ∀ x H', J1.yld j H x H' → InTurn g1 tt1 te vs1 σ2 D x H' next)
/-- what an outer turn owes -/
abbrev OutTurn (g g1 : TG) (tt tt1 : L2.TT) (wi1 : L2.TI) (te : TE) (vs vs1 : List Nat) (σ : L2.St) (D : Addr) (x : V) (H : Hp) (next : Hp → Prop) : Prop :=
  g x (wipe σ vs) H fun σ2 H2 => wipe σ2 vs = wipe σ vs ∧ tt σ2 H2 fun b H3 => if b = true then wi1 σ2 H3 fun J1 H4 => InAll g1 tt1 te vs1 σ2 D J1 H4 next else next H3
variable {J : L2.It} {n : Nat} {G : Hp → Prop} {Y : Nat → Hp → V → Hp → Prop} {g g1 : TG} {tt tt1 : L2.TT} {wi1 : L2.TI} {te : TE} {vs vs1 : List Nat} {D : Addr}
/-- a comprehension of two clauses: the outer walk -/
theorem lc2_out (w : Walk J n G Y) {σ : L2.St} {H1 : Hp} {Qd : Hp → Prop} (Pv : Nat → Hp → Prop) (h0 : Pv 0 (upd H1 D (.lst []))) (hG : ∀ i H, i ≤ n → Pv i H → G H) (turn : ∀ i x H H', i < n → Pv i H → Y i H x H' → OutTurn g g1 tt tt1 wi1 te vs vs1 σ D x H' (Pv (i + 1)))
    (hd : ∀ H, Pv n H → Qd H) : ∃ W : Nat → Nat → Hp → Prop, (∃ m, W 0 m (upd H1 D (.lst []))) ∧ ∀ i m H, W i m H →
      (J.stop i H ∧ Qd H) ∨ (J.go i H ∧ ∃ next : Hp → Prop, (∀ H', next H' → ∃ m', m' < m ∧ W (i + 1) m' H') ∧ ∀ x H', J.yld i H x H' → OutTurn g g1 tt tt1 wi1 te vs vs1 σ D x H' next) :=
  measured w (OutTurn g g1 tt tt1 wi1 te vs vs1 σ D) Pv h0 hG turn hd
/-- the inner walk -/
theorem lc2_in (w : Walk J n G Y) {σ2 : L2.St} {H4 : Hp} {last : Hp → Prop} (Pv : Nat → Hp → Prop) (h0 : Pv 0 H4) (hG : ∀ i H, i ≤ n → Pv i H → G H) (turn : ∀ i x H H', i < n → Pv i H → Y i H x H' → InTurn g1 tt1 te vs1 σ2 D x H' (Pv (i + 1))) (hd : ∀ H, Pv n H → last H) :
    InAll g1 tt1 te vs1 σ2 D J H4 last := measured w (InTurn g1 tt1 te vs1 σ2 D) Pv h0 hG turn hd
end
/-! ### all pairs -/
def apairs : Nat → List (Nat × Nat)
  | 0 => []
  | b + 1 => apairs b ++ (List.range b).map fun a => (a, b)
theorem mem_apairs {a b : Nat} : ∀ {D : Nat}, (a, b) ∈ apairs D ↔ a < b ∧ b < D
  | 0 => by simp [apairs]
  | D + 1 => by
    show (a, b) ∈ apairs D ++ (List.range D).map (fun a => (a, D)) ↔ _
    rw [List.mem_append, mem_apairs, List.mem_map]
    constructor
    · rintro (h | ⟨x, hx, e⟩)
      · omega
      · cases e; have := List.mem_range.mp hx; omega
    · intro h
      by_cases e : b = D
      · subst e; exact .inr ⟨a, List.mem_range.mpr h.1, rfl⟩
      · exact .inl (by omega)
theorem len_apairs {D : Nat} (h : D ≤ 4) : (apairs D).length ≤ 6 := by
  have : ∀ D, D < 5 → (apairs D).length ≤ 6 := by decide
  exact this D (by omega)
section
variable {P : Program} {w : World} {K : PySem.W.Frag} {mg : Str → Option Value} {base : Heap} {CM CC CP : Addr}
def spPairs : Sp := fun vs H Q _ => ∃ (D : Nat), vs = [vN D] ∧ D ≤ 4 ∧ ∀ q H' xs, Same H H' → H' q = some (.lst xs) → Paired (repP H') xs (apairs D) → Q (.ref q) H'
theorem scPairs : FnScope ["deeds", "one", "other"] ["deeds"] (defScope (topS 32)) := ⟨rfl, rfl, rfl, by decide +kernel, rfl, by decide +kernel, by decide +kernel⟩
theorem ok_pairs {f : Addr} {fd : FuncData} (F : Fun K "all_pairs" "all_pairs" (topS 32) f fd) (Z : Gls mg) : FnOk P w K mg base CX0 1 f fd ["deeds"] spPairs := by
  refine F.ok scPairs (fun vs H Q E h => ?_) (fun cdv A outer s H vs Q E hr h => ?_)
  · obtain ⟨D, rfl, _⟩ := h; rfl
  · obtain ⟨D, rfl, hD4, k⟩ := h
    refine ⟨_, pss_one (ps_ret (pe_lc2 (own := [("one", 1), ("other", 2)]) (vs1 := [1]) (g := gName 2) (g1 := gName 1) (tt := tYes) (tt1 := tYes) (wi1 := iRng1 (tCons (tVar 2) tNil)) (te := tTup (tCons (tVar 1) (tCons (tVar 2) tNil))) rfl scPairs.nd (pi_range1 (by rfl) Z.range (pa_cons (pv 0) pa_nil)) (blkOk_by (N := ["deeds", "one", "other"]) (sc := defScope (topS 32)) (by decide +kernel)) (by decide)
      (fun _ _ _ _ _ => pg_name (i := 2) scPairs.nd rfl (Or.inl rfl)) (fun _ _ _ _ _ => pts_nil) (fun _ _ _ _ _ => pi_range1 (by rfl) Z.range (pa_cons (pv 2) pa_nil)) (fun _ _ _ _ _ => pg_name (i := 1) scPairs.nd rfl (Or.inl rfl)) (fun _ _ _ _ _ => pts_nil)
      (fun _ _ _ _ _ => pe_tup (pa_cons (pv 1) (pa_cons (pv 2) pa_nil))))), ?_⟩
    refine ⟨_, rfl, _, rfl, by omega, by omega, fun L hL => ?_⟩
    refine lc2_out walk_range (fun i H2 => Same H H2 ∧ ∃ us, H2 L = some (.lst us) ∧ Paired (repP H2) us (apairs i)) ⟨Same.upd hL, [], upd_same, .nil⟩ (fun _ _ _ _ => True.intro) ?_ ?_
    · rintro i x Hx H2 hi ⟨s2, us, h2, p2⟩ ⟨rfl, ex⟩
      obtain rfl := yN ex
      refine ⟨rfl, yes ?_⟩
      refine ⟨_, rfl, (i : Int), rfl, by omega, by omega, ?_⟩
      refine lc2_in walk_range (fun j H3 => Same H H3 ∧ ∃ us, H3 L = some (.lst us) ∧ Paired (repP H3) us (apairs i ++ (List.range j).map fun a => (a, i))) ⟨s2, us, h2, by simpa using p2⟩ (fun _ _ _ _ => True.intro) ?_ ?_
      · rintro j x Hx H3 hj ⟨s3, us3, h3, p3⟩ ⟨rfl, ex⟩
        obtain rfl := yN ex
        refine ⟨rfl, yes ⟨_, rfl, _, rfl, (by show 2 ≤ sizeLine; decide), fun T hT => ?_⟩⟩
        have nTL : L ≠ T := ne_of_none h3 hT
        have h4 : upd H3 T (.tup [vN j, vN i]) L = some (.lst us3) := by rw [upd_ne nTL]; exact h3
        have kk : TK H3 (upd (upd H3 T (.tup [vN j, vN i])) L (.lst (us3 ++ [V.ref T]))) := (TK.new hT).trans (TK.lst h4)
        have hij : (i : Int).toNat = i := by omega
        have lu : us3.length ≤ 100 := by
          have := plen p3
          have h6 := len_apairs (D := i) (by omega)
          rw [List.length_append, List.length_map, List.length_range] at this
          omega
        refine ⟨us3, h4, small1000 (by omega), (s3.new hT).mut hL, _, upd_same, ?_⟩
        rw [List.range_succ, List.map_append, ← List.append_assoc]
        refine psnoc (pmap p3 fun _ _ z => thP.keep kk z) ⟨T, rfl, by rw [upd_ne nTL.symm, upd_same]⟩
      · rintro H3 ⟨s3, us3, h3, p3⟩
        exact ⟨s3, us3, h3, p3⟩
    · rintro H2 ⟨s2, us, h2, p2⟩
      exact k L H2 us s2 h2 p2
end
end OWP

/-! ## W11 -/
/-! W11: moves of states; what is told to be one. -/
namespace OWP
open PySem PySem.Spec PyProof.Rows L2 OWR OW
def MovAt (H : Hp) (a : Addr) (S : List Nat) (g : Nat → Nat) : Prop := ∃ kvs : List (Nat × V), H a = some (thN.dic kvs) ∧ kvs.map (·.1) = S ∧ ∀ s, s ∈ S → valV kvs s = some (vN (g s))
theorem MovAt.keep {H H' : Hp} {a : Addr} {S : List Nat} {g : Nat → Nat} (m : MovAt H a S g) (s : Same H H') : MovAt H' a S g := let ⟨kvs, h, e, v⟩ := m; ⟨kvs, s _ _ h, e, v⟩
theorem MovAt.get {H : Hp} {a : Addr} {S : List Nat} {g : Nat → Nat} (m : MovAt H a S g) {s : Nat} (hs : s ∈ S) : DGet H a (vN s) (some (vN (g s))) := by
  obtain ⟨kvs, h, _, v⟩ := m
  have := thN.get (v := vN s) (t := s) h rfl
  rw [v s hs] at this
  exact this
structure MovsAt (H : Hp) (a : Addr) (D : Nat) (S : List Nat) (act : Nat → Nat → Nat) : Prop where
  ex : ∃ ms, H a = some (.lst ms) ∧ ms.length = D ∧ ∀ d, d < D → ∃ b, ms[d]? = some (.ref b) ∧ MovAt H b S (act d)
theorem MovsAt.keep {H H' : Hp} {a : Addr} {D : Nat} {S : List Nat} {act : Nat → Nat → Nat} (m : MovsAt H a D S act) (s : Same H H') : MovsAt H' a D S act := by
  obtain ⟨ms, h, hl, g⟩ := m.ex
  exact ⟨⟨ms, s _ _ h, hl, fun d hd => let ⟨b, e, x⟩ := g d hd; ⟨b, e, x.keep s⟩⟩⟩
section
variable {P : Program} {w : World} {K : PySem.W.Frag} {mg : Str → Option Value} {base : Heap} {CM CC CP : Addr}
def spTurned : Sp := fun vs H Q _ => ∃ (a : Addr) (S : List Nat) (g : Nat → Nat) (s t : Nat), vs = [.ref a, vN s, vN t] ∧ MovAt H a S g ∧ (∀ x, x ∈ S → g x ∈ S) ∧ s ∈ S ∧ t ≤ 1000 ∧ Q (vN (iter g t s)) H
theorem scTurned : FnScope ["move", "thing", "times", "_"] ["move", "thing", "times"] (defScope (topS 33)) := ⟨rfl, rfl, rfl, by decide +kernel, rfl, by decide +kernel, by decide +kernel⟩
theorem ok_turned {f : Addr} {fd : FuncData} (F : Fun K "turned" "turned" (topS 33) f fd) (Z : Gls mg) : FnOk P w K mg base CX0 1 f fd ["move", "thing", "times"] spTurned := by
  refine F.ok scTurned (fun vs H Q E h => ?_) (fun cdv A outer s0 H vs Q E hr h => ?_)
  · obtain ⟨a, S, g, s, t, rfl, _⟩ := h; rfl
  · obtain ⟨a, S, g, s, t, rfl, hM, cl, hs, ht, k⟩ := h
    have hu := hu_of hr
    refine ⟨_, pss_cons (ps_for PassesOwn.never rfl (pi_range1 (by rfl) Z.range (pa_cons (pv 2) pa_nil)) (pg_name (i := 3) scTurned.nd rfl (Or.inl rfl)) (pss_one (ps_set (i := 1) scTurned.nd rfl (Or.inl rfl) (pe_dget hu (pv 0) (pv 1) (fun _ _ => rfl)))))
      (pss_one (ps_ret (pv 1))), ?_⟩
    refine ⟨_, rfl, (t : Int), rfl, by omega, by omega, ?_⟩
    refine for_it walk_range (fun i σ H2 => H2 = H ∧ ∃ x, σ = [some (.ref a), some (vN (iter g i s)), some (vN t), x]) ⟨rfl, _, rfl⟩ (fun _ _ _ _ _ => True.intro) ?_ ?_
    · rintro i x σ H2 H3 hi ⟨rfl, x0, rfl⟩ ⟨rfl, ex⟩
      have hx : iter g i s ∈ S := iter_mem cl i hs
      exact ⟨_, rfl, _, rfl, a, _, rfl, hM.get hx, rfl, some x, by rw [iter_succ']; rfl⟩
    · rintro σ H2 ⟨rfl, x0, rfl⟩
      exact ⟨_, rfl, k⟩
/-- pairs of things, each told to be one -/
def TolA (H : Hp) (a : Addr) (Good : Nat × Nat → Prop) (n : Nat) : Prop := ∃ us ps, H a = some (.lst us) ∧ Paired (repP H) us ps ∧ (∀ p, p ∈ ps → Good p) ∧ ps.length ≤ n
def GoodS (T : List (List Nat)) (f : Nat) (S : List Nat) (R : List Nat) (p : Nat × Nat) : Prop := p.1 ∈ S ∧ p.2 ∈ S ∧ EqvA (actT T) T.length (rd R) f p.1 p.2
def spTold : Sp := fun vs H Q _ => ∃ (m pa ra : Addr) (T : List (List Nat)) (S R : List Nat) (f : Nat) (xs : List V), vs = [.ref m, .ref pa, .ref ra] ∧ MovsAt H m T.length S (actT T) ∧ 1 ≤ T.length ∧ T.length ≤ 4 ∧ S.length ≤ 8 ∧ R.length = T.length ∧ (∀ x, x ∈ R → x ≤ 60) ∧
  (∀ d, d < T.length → ∀ s, s ∈ S → actT T d s ∈ S) ∧ (∀ s, s ∈ S → RchA (actT T) T.length f s) ∧ H pa = some (.lst xs) ∧ Paired (repP H) xs (apairs T.length) ∧ H ra = some (.tup (R.map vN)) ∧
  ∀ q H', Same H H' → H q = none → TolA H' q (GoodS T f S R) 100 → Q (.ref q) H'
theorem scTold : FnScope ["moves", "pairs", "rounds", "found", "thing", "one", "other", "move", "times"] ["moves", "pairs", "rounds"] (defScope (topS 34)) := ⟨rfl, rfl, rfl, by decide +kernel, rfl, by decide +kernel, by decide +kernel⟩
theorem ok_told {f : Addr} {fd : FuncData} (F : Fun K "told_unions" "told_unions" (topS 34) f fd) (Z : Gls mg) (ct : Cal P w K mg base "turned" 1 ["move", "thing", "times"] spTurned) : FnOk P w K mg base CX0 2 f fd ["moves", "pairs", "rounds"] spTold := by
  refine F.ok scTold (fun vs H Q E h => ?_) (fun cdv A outer s0 H vs Q E hr h => ?_)
  · obtain ⟨m, pa, ra, T, S, R, f, xs, rfl, _⟩ := h; rfl
  · obtain ⟨m, pa, ra, T, S, R, f, xs, rfl, hM, hD1, hD4, hS8, hR, hR60, cl, rch, hpa, hxs, hra, k⟩ := h
    have hu := hu_of hr
    refine ⟨_, pss_cons (ps_set (i := 3) scTold.nd rfl (Or.inl rfl) (pe_lst pa_nil))
      (pss_cons (ps_for PassesOwn.never rfl (pi_list (pe_callB cr_sortedI (by rfl) Z.sorted (by decide +kernel) (pa_cons (pe_callTy (thN.lst rfl) (by rfl) Z.list (by decide +kernel) (pa_cons (pe_ix ix_list (pv 0) pe_int (fun _ _ => rfl)) pa_nil)) pa_nil))) (pg_name (i := 4) scTold.nd rfl (Or.inl rfl))
        (pss_cons (ps_for PassesOwn.never rfl (pi_list (pv 1)) (pg_tup rfl (pgs_cons (pg_name (i := 5) scTold.nd rfl (.inl rfl)) (pgs_cons (pg_name (i := 6) scTold.nd rfl (.inl rfl)) pgs_nil)))
          (pss_one (ps_expr (pe_bm PySem.F.plainAttrs_list PySem.F.slot_list_append PySem.F.type_list_append mt_append (pv 3) (pa_cons (pe_tup
            (pa_cons (pe_dget hu (pe_ix ix_list (pv 0) (pv 6) (fun _ _ => rfl)) (pe_dget hu (pe_ix ix_list (pv 0) (pv 5) (fun _ _ => rfl)) (pv 4) (fun _ _ => rfl)) (fun _ _ => rfl))
            (pa_cons (pe_dget hu (pe_ix ix_list (pv 0) (pv 5) (fun _ _ => rfl)) (pe_dget hu (pe_ix ix_list (pv 0) (pv 6) (fun _ _ => rfl)) (pv 4) (fun _ _ => rfl)) (fun _ _ => rfl)) pa_nil))) pa_nil)))))
        (pss_one (ps_for PassesOwn.never rfl (pi_z2 .l .t (by rfl) Z.zip (pa_cons (pv 0) (pa_cons (pv 2) pa_nil))) (pg_tup rfl (pgs_cons (pg_name (i := 7) scTold.nd rfl (.inl rfl)) (pgs_cons (pg_name (i := 8) scTold.nd rfl (.inl rfl)) pgs_nil)))
          (pss_one (ps_expr (pe_bm PySem.F.plainAttrs_list PySem.F.slot_list_append PySem.F.type_list_append mt_append (pv 3) (pa_cons (pe_tup
            (pa_cons (pv 4) (pa_cons (pe_cal ct hr (by rfl) (pa_cons (pv 7) (pa_cons (pv 4) (pa_cons (pv 8) pa_nil)))) pa_nil))) pa_nil))))))))
      (pss_one (ps_ret (pv 3)))), ?_⟩
    obtain ⟨ms, hm, hml, hms⟩ := hM.ex
    refine ⟨(by show 0 ≤ sizeLine; decide), fun fl hfl => ?_⟩
    have s1 : Same H (upd H fl (.lst [])) := Same.upd hfl
    obtain ⟨b0, hb0, ⟨kv0, hk0, ek0, _⟩⟩ := hms 0 (by omega)
    refine ⟨_, rfl, m, ms, 0, _, rfl, rfl, .of (s1 _ _ hm), at_V (i := 0) hb0, b0, kv0, rfl, s1 _ _ hk0, fun q1 ks hq1 hks => ?_⟩
    rw [ek0] at hks
    have eks : ks = S.map vN := by
      have : ∀ {ks : List V} {l : List Nat}, Paired (fun (v : V) (n : Nat) => v = vN n) ks l → ks = l.map vN := fun {ks l} p => by
        induction p with
        | nil => rfl
        | cons r _ ih => rw [r, ih]; rfl
      exact this hks
    subst eks
    refine ⟨q1, S.map fun x : Nat => (x : Int), rfl, .of (by rw [upd_same, List.map_map]; rfl), fun ns q2 hperm _ hq2 => ?_⟩
    obtain ⟨S', rfl, hS⟩ := perm_nat hperm
    have nfq : fl ≠ q1 := fun z => by rw [← z, upd_same] at hq1; cases hq1
    have nfq2 : fl ≠ q2 := fun z => by rw [← z, upd_ne nfq, upd_same] at hq2; cases hq2
    have eS' : (S'.map fun x : Nat => (x : Int)).map V.int = S'.map vN := by rw [List.map_map]; rfl
    rw [eS'] at *
    generalize hHA : upd (upd (upd H fl (.lst [])) q1 (.lst (S.map vN))) q2 (.lst (S'.map vN)) = HA
    have sA : Same H HA := by rw [← hHA]; exact (s1.new hq1).new hq2
    have fA : HA fl = some (.lst []) := by rw [← hHA, upd_ne nfq2, upd_ne nfq, upd_same]
    have q2A : HA q2 = some (.lst (S'.map vN)) := by rw [← hHA, upd_same]
    have q20 : H q2 = none := by
      cases e : H q2 with
      | none => rfl
      | some o => rw [s1.new hq1 _ _ e] at hq2; cases hq2
    refine ⟨q2, rfl, ⟨_, .of q2A⟩, ?_⟩
    have lS' : S'.length ≤ 8 := by rw [hS.length_eq]; exact hS8
    -- one more pair
    have more : ∀ {H2 : Hp} {n : Nat} {x y : Nat} {p : Addr}, Same H H2 → H2 q2 = some (.lst (S'.map vN)) → TolA H2 fl (GoodS T f S R) n → n ≤ 500 → GoodS T f S R (x, y) → H2 p = none →
        ∃ us, upd H2 p (.tup [vN x, vN y]) fl = some (.lst us) ∧ us.length < sizeLine ∧ Same H (upd (upd H2 p (.tup [vN x, vN y])) fl (.lst (us ++ [V.ref p]))) ∧ upd (upd H2 p (.tup [vN x, vN y])) fl (.lst (us ++ [V.ref p])) q2 = some (.lst (S'.map vN)) ∧ TolA (upd (upd H2 p (.tup [vN x, vN y])) fl (.lst (us ++ [V.ref p]))) fl (GoodS T f S R) (n + 1) := fun {H2 n x y p} s2 hq2' ⟨us, ps, h1, h2, h3, h4⟩ hn hg hp => by
      have nfp : fl ≠ p := ne_of_none h1 hp
      have h1' : upd H2 p (.tup [vN x, vN y]) fl = some (.lst us) := by rw [upd_ne nfp]; exact h1
      have kk : TK H2 (upd (upd H2 p (.tup [vN x, vN y])) fl (.lst (us ++ [V.ref p]))) := (TK.new hp).trans (TK.lst h1')
      have := plen h2
      refine ⟨us, h1', small1000 (by omega), (s2.new hp).mut hfl, by rw [upd_ne nfq2.symm, upd_ne (ne_of_none hq2' hp)]; exact hq2', us ++ [V.ref p], ps ++ [(x, y)], upd_same, psnoc (pmap h2 fun _ _ z => thP.keep kk z) ⟨p, rfl, by rw [upd_ne nfp.symm, upd_same]⟩, fun z hz => ?_, by rw [List.length_append]; exact Nat.add_le_add_right h4 1⟩
      obtain hz | hz := List.mem_append.mp hz
      · exact h3 z hz
      · rw [List.mem_singleton.mp hz]; exact hg
    refine for_list (K := K) (a := q2) (xs := S'.map vN) (fun i σ H2 => ∃ a b c d e, σ = [some (.ref m), some (.ref pa), some (.ref ra), some (.ref fl), a, b, c, d, e] ∧ Same H H2 ∧ H2 q2 = some (.lst (S'.map vN)) ∧ TolA H2 fl (GoodS T f S R) (10 * i))
      ⟨_, _, _, _, _, rfl, sA, q2A, [], [], fA, .nil, (fun _ h => nomatch h), Nat.le_refl _⟩ (fun i σ H2 _ ⟨_, _, _, _, _, _, _, z, _⟩ => .of z) ?_ ?_
    · rintro i x σ H2 hx ⟨a0, b0, c0, d0, e0, rfl, s2, hq2', hT⟩
      have hi8 : i < 8 := by have := (List.getElem?_eq_some_iff.mp hx).1; rw [List.length_map] at this; omega
      obtain ⟨s, hs, rfl⟩ := map_vN_get hx
      have hsS : s ∈ S := hS.mem_iff.mp (List.mem_of_getElem? hs)
      refine ⟨_, rfl, pa, rfl, ⟨_, .of (s2 _ _ hpa)⟩, ?_⟩
      refine for_list (K := K) (a := pa) (xs := xs) (fun j σ H3 => ∃ b c d e, σ = [some (.ref m), some (.ref pa), some (.ref ra), some (.ref fl), some (vN s), b, c, d, e] ∧ Same H H3 ∧ H3 q2 = some (.lst (S'.map vN)) ∧ TolA H3 fl (GoodS T f S R) (10 * i + j))
        ⟨_, _, _, _, rfl, s2, hq2', hT⟩ (fun j σ H3 _ ⟨_, _, _, _, _, z, _⟩ => .of (z _ _ hpa)) ?_ ?_
      · rintro j y σ H3 hy ⟨b1, c1, d1, e1, rfl, s3, hq3, hT3⟩
        obtain ⟨⟨one, other⟩, hmem, ⟨q, rfl, hq⟩⟩ := pget hxs hy
        obtain ⟨hlt, hoD⟩ := mem_apairs.mp (List.mem_of_getElem? hmem)
        have h1D : one < T.length := Nat.lt_trans hlt hoD
        obtain ⟨d1', hb1, M1⟩ := hms one h1D
        obtain ⟨d2', hb2, M2⟩ := hms other hoD
        have hj6 : j < 6 := by
          have := (List.getElem?_eq_some_iff.mp hmem).1
          have := len_apairs hD4
          omega
        have m3 := s3 _ _ hm
        have M1 := M1.keep s3
        have M2 := M2.keep s3
        obtain ⟨us0, ps0, f3, _⟩ := id hT3
        refine ⟨q, _, rfl, .inl (.inl (s3 _ _ hq)), rfl, _, _, rfl, _, _, rfl, rfl, ?_⟩
        refine ⟨_, rfl, .inl ⟨rfl, _, .of f3⟩, _, rfl, _, rfl, m, ms, _, _, rfl, rfl, .of m3, at_V hb2, _, rfl, _, rfl, m, ms, _, _, rfl, rfl, .of m3, at_V hb1, _, rfl, d1', _, rfl, M1.get hsS, d2', _, rfl, M2.get (cl _ h1D _ hsS),
          _, rfl, _, rfl, m, ms, _, _, rfl, rfl, .of m3, at_V hb1, _, rfl, _, rfl, m, ms, _, _, rfl, rfl, .of m3, at_V hb2, _, rfl, d2', _, rfl, M2.get hsS, d1', _, rfl, M1.get (cl _ hoD _ hsS), (by show 2 ≤ sizeLine; decide), fun p hp => ?_⟩
        obtain ⟨us, g1, g2, g3, g4, g5⟩ := more s3 hq3 hT3 (by omega) (x := actT T other (actT T one s)) (y := actT T one (actT T other s)) ⟨cl _ hoD _ (cl _ h1D _ hsS), cl _ h1D _ (cl _ hoD _ hsS), EqvA.of_cong (rch s hsS) (u := [one, other]) (u' := [other, one]) (Wd.cons h1D (Wd.cons hoD Wd.nil)) (Wd.cons hoD (Wd.cons h1D Wd.nil)) fun d _ => by rw [count_two]⟩ hp
        exact ⟨fl, us, _, rfl, rfl, g1, g2, _, _, _, _, rfl, g3, g4, g5⟩
      · rintro σ H3 ⟨b1, c1, d1, e1, rfl, s3, hq3, hT3⟩
        have lxs : xs.length ≤ 6 := by rw [plen hxs]; exact len_apairs hD4
        refine ⟨_, rfl, _, rfl, m, ra, ms, _, rfl, .of (s3 _ _ hm), .inl (.inl (s3 _ _ hra)), ?_⟩
        refine for_it (walk_z2 (xs := ms) (ys := R.map vN) (by rw [List.length_map, hR, hml])) (fun j σ H4 => ∃ b c d e, σ = [some (.ref m), some (.ref pa), some (.ref ra), some (.ref fl), some (vN s), b, c, d, e] ∧ Same H H4 ∧ H4 q2 = some (.lst (S'.map vN)) ∧ TolA H4 fl (GoodS T f S R) (10 * i + 6 + j))
          ⟨_, _, _, _, rfl, s3, hq3, ?_⟩ (fun j σ H4 _ ⟨_, _, _, _, _, z, _⟩ => ⟨.of (z _ _ hm), .inl (.inl (z _ _ hra))⟩) ?_ ?_
        · obtain ⟨us, ps, h1, h2, h3, h4⟩ := hT3
          exact ⟨us, ps, h1, h2, h3, by omega⟩
        · rintro j v σ H4 H5 hj ⟨b2, c2, d2, e2, rfl, s4, hq4, hT4⟩ ⟨Tp, x1, y1, rfl, hTp, rfl, ex, ey⟩
          have hjD : j < T.length := by omega
          obtain ⟨dj, hbj, Mj⟩ := hms j hjD
          have ex : ms[j]? = some x1 := ex
          rw [hbj] at ex
          cases ex
          obtain ⟨r, hr1, rfl⟩ := map_vN_get ey
          have er : rd R j = r := by unfold rd; rw [List.getD_eq_getElem?_getD, hr1]; rfl
          have hr60 := hR60 r (List.mem_of_getElem? hr1)
          have s5 : Same H (upd H4 Tp (.tup [V.ref dj, vN r])) := s4.new hTp
          obtain ⟨us0, ps0, f4, f4'⟩ := id hT4
          have kT := TK.new (o := .tup [V.ref dj, vN r]) hTp
          have f5 : upd H4 Tp (.tup [V.ref dj, vN r]) fl = some (.lst us0) := by rw [upd_ne (ne_of_none f4 hTp)]; exact f4
          have hT5 : TolA (upd H4 Tp (.tup [V.ref dj, vN r])) fl (GoodS T f S R) (10 * i + 6 + j) := ⟨us0, ps0, f5, pmap f4'.1 fun _ _ z => thP.keep kT z, f4'.2⟩
          have hq5 : upd H4 Tp (.tup [V.ref dj, vN r]) q2 = some (.lst (S'.map vN)) := by rw [upd_ne (ne_of_none hq4 hTp)]; exact hq4
          refine ⟨Tp, _, rfl, .inl (.inl upd_same), rfl, _, _, rfl, _, _, rfl, rfl, ?_⟩
          refine ⟨_, rfl, .inl ⟨rfl, _, .of f5⟩, _, rfl, _, rfl, _, rfl, _, rfl, dj, S, actT T j, s, r, rfl, Mj.keep s5, cl j hjD, hsS, by omega, (by show 2 ≤ sizeLine; decide), fun p hp => ?_⟩
          have eit : iter (actT T j) r s = runA (actT T) (List.replicate r j) s := (runA_rep _ _ _ _).symm
          obtain ⟨us, g1, g2, g3, g4, g5⟩ := more s5 hq5 hT5 (by omega) (x := s) (y := iter (actT T j) r s) ⟨hsS, iter_mem (cl j hjD) r hsS, by
            rw [eit]
            refine EqvA.of_cong (rch s hsS) (u := []) Wd.nil (Wd.rep hjD) fun c _ => ?_
            rw [List.count_replicate]
            by_cases h : j = c
            · subst h; rw [er]; simp
            · simp [h]⟩ hp
          exact ⟨fl, us, _, rfl, rfl, g1, g2, _, _, _, _, rfl, g3, g4, g5⟩
        · rintro σ H4 ⟨b2, c2, d2, e2, rfl, s4, hq4, hT4⟩
          refine ⟨_, _, _, _, _, rfl, s4, hq4, ?_⟩
          obtain ⟨us, ps, h1, h2, h3, h4⟩ := hT4
          exact ⟨us, ps, h1, h2, h3, by omega⟩
    · rintro σ H2 ⟨a0, b0, c0, d0, e0, rfl, s2, hq2', hT⟩
      refine ⟨_, rfl, k fl H2 s2 hfl ?_⟩
      obtain ⟨us, ps, h1, h2, h3, h4⟩ := hT
      rw [List.length_map] at h4
      exact ⟨us, ps, h1, h2, h3, by omega⟩
end
end OWP

/-! ## W12 -/
/-! W12: lots by moves. -/
namespace OWP
open PySem PySem.Spec PyProof.Rows L2 OWR OW
theorem psplit {α β : Type} {R : α → β → Prop} : ∀ {xs : List α} {x : α} {ys : List β}, Paired R (xs ++ [x]) ys → ∃ zs z, ys = zs ++ [z] ∧ Paired R xs zs ∧ R x z
  | [], x, ys, h => by
    cases h with
    | cons r t => cases t; exact ⟨[], _, rfl, .nil, r⟩
  | a :: xs, x, ys, h => by
    have h : Paired R (a :: (xs ++ [x])) ys := h
    cases h with
    | cons r t =>
      obtain ⟨zs, z, rfl, h1, h2⟩ := psplit t
      exact ⟨_ :: zs, z, rfl, .cons r h1, h2⟩
theorem papp {α β : Type} {R : α → β → Prop} {xs xs' : List α} {ys ys' : List β} (h : Paired R xs ys) (h' : Paired R xs' ys') : Paired R (xs ++ xs') (ys ++ ys') := by
  induction h with
  | nil => exact h'
  | cons r _ ih => exact .cons r ih
def cntR {τ : Type} [DecidableEq τ] (L : List τ) (r : τ → τ) : Nat := (L.filter fun t => decide (r t = t)).length
theorem cntR_le {τ : Type} [DecidableEq τ] (L : List τ) (r : τ → τ) : cntR L r ≤ L.length := List.length_filter_le _ _
theorem setR_self {τ : Type} [DecidableEq τ] (r : τ → τ) (b : τ) : setR r b b = r := funext fun t => by
  unfold setR
  by_cases h : r t = b
  · rw [if_pos h, h]
  · rw [if_neg h]
theorem Fo.cnt {τ : Type} [DecidableEq τ] {L : List τ} {h r : τ → τ} (f : Fo L h r) (nd : L.Nodup) {a b : τ} (ha : a ∈ L) (hb : b ∈ L) (ne : r a ≠ r b) : cntR L (setR r (r b) (r a)) + 1 ≤ cntR L r := by
  have key : ∀ t, t ∈ L → setR r (r b) (r a) t = t → r t = t ∧ t ≠ r b := fun t ht e => by
    unfold setR at e
    by_cases q : r t = r b
    · rw [if_pos q] at e
      subst e
      rw [f.rr ha] at q
      exact absurd q ne
    · rw [if_neg q] at e
      exact ⟨e, fun z => q (by rw [e]; exact z)⟩
  have := nodup_sub (l := r b :: L.filter fun t => decide (setR r (r b) (r a) t = t)) (m := L.filter fun t => decide (r t = t))
    (List.nodup_cons.mpr ⟨fun z => by
      obtain ⟨z1, z2⟩ := List.mem_filter.mp z
      exact (key _ z1 (of_decide_eq_true z2)).2 rfl, nd.filter _⟩) fun t ht => by
      obtain rfl | ht := List.mem_cons.mp ht
      · exact List.mem_filter.mpr ⟨f.rmem b hb, decide_eq_true (f.rr hb)⟩
      · obtain ⟨z1, z2⟩ := List.mem_filter.mp ht
        exact List.mem_filter.mpr ⟨z1, decide_eq_true (key t z1 (of_decide_eq_true z2)).1⟩
  exact this
/-- lots, each of things that words of one showing lead to -/
structure LotsGood (T : List (List Nat)) (f : Nat) (S R : List Nat) (lots : List (List Nat)) : Prop where
  ne : lots ≠ []
  lot : ∀ lot, lot ∈ lots → lot ≠ [] ∧ lot.Nodup ∧ (∀ s, s ∈ lot → s ∈ S) ∧ ∀ s, s ∈ lot → ∀ t, t ∈ lot → EqvA (actT T) T.length (rd R) f s t
section
variable {P : Program} {w : World} {K : PySem.W.Frag} {mg : Str → Option Value} {base : Heap} {CM CC CP : Addr}
def spLotsBy : Sp := fun vs H Q _ => ∃ (m pa ra : Addr) (T : List (List Nat)) (S R : List Nat) (f N : Nat) (xs : List V), vs = [.ref m, .ref pa, .ref ra] ∧ MovsAt H m T.length S (actT T) ∧ 1 ≤ T.length ∧ T.length ≤ 4 ∧ S.length ≤ 8 ∧ S.Nodup ∧ f ∈ S ∧ R.length = T.length ∧ (∀ x, x ∈ R → x ≤ 60) ∧
  (∀ d, d < T.length → ∀ s, s ∈ S → actT T d s ∈ S) ∧ (∀ s, s ∈ S → RchA (actT T) T.length f s) ∧ Per (actT T) T.length f N ∧ H pa = some (.lst xs) ∧ Paired (repP H) xs (apairs T.length) ∧ H ra = some (.tup (R.map vN)) ∧
  ∀ q H' us lots, Same H H' → H' q = some (.tup us) → Paired (LotRep thN H') us lots → LotsGood T f S R lots → Q (.ref q) H'
theorem scLotsBy : FnScope ["moves", "pairs", "rounds", "parting", "waiting", "one", "other", "move"] ["moves", "pairs", "rounds"] (defScope (topS 35)) := ⟨rfl, rfl, rfl, by decide +kernel, rfl, by decide +kernel, by decide +kernel⟩
theorem ok_lotsby {f : Addr} {fd : FuncData} (F : Fun K "lots_by_moves" "lots_by_moves" (topS 35) f fd) (Z : Gls mg) (PT : PartC K CP) (ct : Cal P w K mg base "told_unions" 2 ["moves", "pairs", "rounds"] spTold) (mk : Mak P w K mg base "Parting" CP 1 ["self", "things"] (spPInit thN CP))
    (mu : Mth P w K mg base CP "unite" 2 ["self", "one", "other"] (spPUnite thN CP)) (ml : Mth P w K mg base CP "all_lots" 2 ["self"] (spPLots thN CP)) : FnOk P w K mg base CX0 3 f fd ["moves", "pairs", "rounds"] spLotsBy := by
  refine F.ok scLotsBy (fun vs H Q E h => ?_) (fun cdv A outer s0 H vs Q E hr h => ?_)
  · obtain ⟨m, pa, ra, T, S, R, f, N, xs, rfl, _⟩ := h; rfl
  · obtain ⟨m, pa, ra, T, S, R, f, N, xs, rfl, hM, hD1, hD4, hS8, hnd, hf, hR, hR60, cl, rch, per, hpa, hxs, hra, k⟩ := h
    have hu := hu_of hr
    refine ⟨_, pss_cons (ps_set (i := 3) scLotsBy.nd rfl (Or.inl rfl) (pe_mak mk hr (by rfl) (pa_cons (pe_callTy (thN.lst rfl) (by rfl) Z.list (by decide +kernel) (pa_cons (pe_ix ix_list (pv 0) pe_int (fun _ _ => rfl)) pa_nil)) pa_nil)))
      (pss_cons (ps_set (i := 4) scLotsBy.nd rfl (Or.inl rfl) (pe_cal ct hr (by rfl) (pa_cons (pv 0) (pa_cons (pv 1) (pa_cons (pv 2) pa_nil)))))
      (pss_cons (ps_while PassesOwn.never (pt_cmpR op_gt (pe_callB call_len_seq (by rfl) Z.len (by decide +kernel) (pa_cons (pv 4) pa_nil)) pe_int (nomark _))
        (pss_cons (ps_asg (pe_bm0 PySem.F.plainAttrs_list PySem.F.slot_list_pop PySem.F.type_list_pop mt_pop (pv 4)) (pg_tup rfl (pgs_cons (pg_name (i := 5) scLotsBy.nd rfl (.inr rfl)) (pgs_cons (pg_name (i := 6) scLotsBy.nd rfl (.inr rfl)) pgs_nil))))
        (pss_one (ps_if (pt_val (pe_mth (pv 3) PT.cl mu hr (pa_cons (pv 5) (pa_cons (pv 6) pa_nil))))
          (pss_one (ps_expr (pe_bm PySem.F.plainAttrs_list PySem.F.slot_list_extend PySem.F.type_list_extend mt_extend (pv 4) (pa_cons
            (pe_lc (own := [("move", 7)]) (g := gName 7) (tt := tYes) (te := tTup (tCons (tDGet (tVar 7) (tVar 5)) (tCons (tDGet (tVar 7) (tVar 6)) tNil))) rfl scLotsBy.nd (pi_list (pv 0)) (blkOk_by (N := ["moves", "pairs", "rounds", "parting", "waiting", "one", "other", "move"]) (sc := defScope (topS 35)) (by decide +kernel)) (fun _ _ _ _ _ => pg_name (i := 7) scLotsBy.nd rfl (Or.inl rfl)) (fun _ _ _ _ _ => pts_nil)
              (fun _ _ _ _ _ => pe_tup (pa_cons (pe_dget hu (pv 7) (pv 5) (fun _ _ => rfl)) (pa_cons (pe_dget hu (pv 7) (pv 6) (fun _ _ => rfl)) pa_nil)))) pa_nil)))) pss_nil))))
      (pss_one (ps_ret (pe_mth0 (pv 3) PT.cl ml hr))))), ?_⟩
    obtain ⟨ms, hm, hml, hms⟩ := hM.ex
    obtain ⟨b0, hb0, ⟨kv0, hk0, ek0, _⟩⟩ := hms 0 (by omega)
    refine ⟨_, rfl, m, ms, 0, _, rfl, rfl, .of hm, at_V (i := 0) hb0, b0, kv0, rfl, hk0, fun q1 ks hq1 hks => ?_⟩
    rw [ek0] at hks
    intro p dx hp0 hdx0 hpdx
    have p0 : H p = none := by
      have : p ≠ q1 := fun z => by rw [z, upd_same] at hp0; cases hp0
      rw [upd_ne this] at hp0; exact hp0
    have s1 : Same H (upd (upd (upd H q1 (.lst ks)) dx (.own p)) p (.ins CP dx [])) := ((Same.upd hq1).new hdx0).new (by rw [upd_ne hpdx.symm]; exact hp0)
    have hks2 : Paired (thN.rep (upd (upd (upd H q1 (.lst ks)) dx (.own p)) p (.ins CP dx []))) ks S := pmap hks fun _ _ z => z
    refine ⟨p, dx, q1, ks, S, rfl, upd_same, ?_, hks2, hnd, by omega, fun d H3 sm hd0 pa3 => ⟨rfl, ?_⟩⟩
    · rw [upd_ne (ne_of_none upd_same hp0), upd_ne (ne_of_none upd_same hdx0), upd_same]
    have s3 : Same H H3 := fun b o eb => sm _ _ (s1 _ _ eb) (ne_of_none eb p0)
    have d0 : H d = none := s1.free hd0
    refine ⟨_, rfl, _, rfl, _, rfl, m, pa, ra, T, S, R, f, xs, rfl, hM.keep s3, hD1, hD4, hS8, hR, hR60, cl, rch, s3 _ _ hpa, pmap hxs fun _ _ z => thP.keep (.of s3) z, s3 _ _ hra, fun wl H4 s34 hwl hT => ?_⟩
    have wl0 : H wl = none := s3.free hwl
    have s4 : Same H H4 := s3.trans s34
    have pa4 : PartAt thN CP H4 p d S id id := pa3.keep (fun o e => s34 _ _ e) (fun o e => s34 _ _ e) (.of s34)
    obtain ⟨us0, ps0, w1, w2, w3, w4⟩ := hT
    refine ⟨fun mm σ H1 => ∃ (h r : Nat → Nat) (us : List V) (ps : List (Nat × Nat)) (x y : Option V), mm = us.length + 5 * cntR S r ∧ mm ≤ 140 ∧ σ = [some (.ref m), some (.ref pa), some (.ref ra), some (.ref p), some (.ref wl), x, y, none] ∧ Same H H1 ∧ PartAt thN CP H1 p d S h r ∧ (∀ t, t ∈ S → EqvA (actT T) T.length (rd R) f t (r t)) ∧ H1 wl = some (.lst us) ∧ Paired (repP H1) us ps ∧ ∀ q, q ∈ ps → GoodS T f S R q,
      ⟨_, id, id, us0, ps0, none, none, rfl, ?_, rfl, s4, pa4, fun t ht => EqvA.refl (rch t ht), w1, w2, w3⟩, ?_⟩
    · have := plen w2
      have := cntR_le S id
      omega
    rintro mm σ H1 ⟨h, r, us, ps, x, y, rfl, hmm, rfl, s1', pa1, heq, hw1, hps, hgood⟩
    refine ⟨_, rfl, wl, us, rfl, .inl (.of hw1), _, _, rfl, rfl, _, rfl, ?_⟩
    refine ite2 (fun hpos => ?_) (fun hz => ?_)
    · have hl : 0 < us.length := by have := of_decide_eq_true hpos; omega
      obtain ⟨u, hu1, eu⟩ := last_of hl
      generalize hus : us.dropLast = us' at eu
      subst eu
      obtain ⟨ps', ⟨a, b⟩, rfl, hps', ⟨q, rfl, hq⟩⟩ := psplit hps
      have hg := hgood (a, b) (by simp)
      refine ⟨fun σ2 H2 => ∃ (h2 r2 : Nat → Nat) (us2 : List V) (ps : List (Nat × Nat)) (x y : Option V), us2.length + 5 * cntR S r2 + 1 ≤ (us' ++ [V.ref q]).length + 5 * cntR S r ∧ σ2 = [some (.ref m), some (.ref pa), some (.ref ra), some (.ref p), some (.ref wl), x, y, none] ∧ Same H H2 ∧ PartAt thN CP H2 p d S h2 r2 ∧ (∀ t, t ∈ S → EqvA (actT T) T.length (rd R) f t (r2 t)) ∧ H2 wl = some (.lst us2) ∧ Paired (repP H2) us2 ps ∧ ∀ q, q ∈ ps → GoodS T f S R q,
        fun σ' H' ⟨h2, r2, us2, ps2, x2, y2, a1, a2, a3⟩ => ⟨us2.length + 5 * cntR S r2, by omega, h2, r2, us2, ps2, x2, y2, rfl, by omega, a2, a3⟩, ?_⟩
      have hl3 : (us' ++ [V.ref q]).length = us'.length + 1 := by simp
      have edl : (us' ++ [V.ref q]).dropLast = us' := List.dropLast_concat
      refine ⟨_, rfl, .inl ⟨rfl, _, .of hw1⟩, wl, _, V.ref q, rfl, rfl, hw1, (by rw [hl3]; simp), ?_⟩
      rw [edl]
      have sW : Same H (upd H1 wl (.lst us')) := s1'.mut wl0
      have kW : TK H1 (upd H1 wl (.lst us')) := TK.lst hw1
      obtain ⟨dx1, hp1⟩ := pa1.ob
      obtain ⟨kvs1, hd1, _, _⟩ := pa1.dc
      have npw : p ≠ wl := ne_of hp1 hw1 fun z => nomatch z
      have ndw : d ≠ wl := ne_of hd1 hw1 fun z => thN.nlst _ _ z
      have paW : PartAt thN CP (upd H1 wl (.lst us')) p d S h r := pa1.keep (fun o e => by rw [upd_ne npw]; exact e) (fun o e => by rw [upd_ne ndw]; exact e) kW
      have hqW := kW _ _ hq
      refine ⟨q, _, rfl, .inl (.inl hqW), rfl, _, _, rfl, _, _, rfl, rfl, ?_⟩
      obtain ⟨dxW, hpW⟩ := paW.ob
      refine ⟨_, rfl, p, dxW, _, rfl, hpW, (lk1 (by decide +kernel) rfl), _, rfl, _, rfl, p, d, _, _, S, h, r, a, b, rfl, paW, by omega, hg.1, hg.2.1, rfl, rfl, fun H5 s5 k5 pa5 => ?_⟩
      have hw5 : H5 wl = some (.lst us') := s5 _ _ upd_same ndw.symm
      have sH5 : Same H H5 := fun c o e => s5 _ _ (sW _ _ e) (ne_of_none e d0)
      have eq5 : ∀ t, t ∈ S → EqvA (actT T) T.length (rd R) f t (setR r (r b) (r a) t) := fun t ht => by
        unfold setR
        by_cases z : r t = r b
        · rw [if_pos z]
          have e1 := heq t ht
          rw [z] at e1
          exact (e1.trans per (heq b hg.2.1).symm).trans per ((hg.2.2.symm).trans per (heq a hg.1))
        · rw [if_neg z]; exact heq t ht
      have ps5 : Paired (repP H5) us' ps' := pmap hps' fun _ _ z => thP.keep (kW.trans k5) z
      have g5 : ∀ q, q ∈ ps' → GoodS T f S R q := fun q hq => hgood q (List.mem_append_left _ hq)
      refine ⟨_, rfl, ?_⟩
      by_cases hne : r a = r b
      · rw [decide_eq_true hne]
        refine iteF ?_
        refine ⟨_, _, us', ps', _, _, ?_, rfl, sH5, pa5, eq5, hw5, ps5, g5⟩
        rw [hne, setR_self]; omega
      · rw [decide_eq_false hne]
        refine iteT ?_
        have hcnt : cntR S (setR r (r b) (r a)) + 1 ≤ cntR S r := pa1.fo.cnt hnd hg.1 hg.2.1 hne
        have m5 := sH5 _ _ hm
        refine ⟨_, rfl, .inl ⟨rfl, _, .of hw5⟩, _, rfl, m, rfl, ⟨_, .of m5⟩, fun L hL => ?_⟩
        have nwL : wl ≠ L := ne_of_none hw5 hL
        have npL : p ≠ L := let ⟨_, z⟩ := pa5.ob; ne_of_none z hL
        have ndL : d ≠ L := let ⟨_, z, _⟩ := pa5.dc; ne_of_none z hL
        have L0 : H L = none := sH5.free hL
        refine lc_list (K := K) (a := m) (xs := ms) (fun i H6 => Same H5 H6 ∧ ∃ us6 ps6, H6 L = some (.lst us6) ∧ Paired (repP H6) us6 ps6 ∧ us6.length = i ∧ ∀ q, q ∈ ps6 → GoodS T f S R q)
          ⟨Same.upd hL, [], [], upd_same, .nil, rfl, fun _ h => nomatch h⟩ (fun i H6 _ z => .of (z.1 _ _ m5)) ?_ ?_
        · rintro i v H6 hv ⟨s6, us6, ps6, e1, e2, e3, e4⟩
          have hiD : i < T.length := by rw [← hml]; exact (List.getElem?_eq_some_iff.mp hv).1
          obtain ⟨bi, hbi, Mi⟩ := hms i hiD
          rw [hbi] at hv
          cases hv
          have M6 := Mi.keep (sH5.trans s6)
          refine ⟨rfl, yes ⟨_, rfl, _, rfl, bi, _, rfl, M6.get hg.1, _, rfl, _, rfl, bi, _, rfl, M6.get hg.2.1, (by show 2 ≤ sizeLine; decide), fun tp htp => ?_⟩⟩
          have e1' : upd H6 tp (.tup [vN (actT T i a), vN (actT T i b)]) L = some (.lst us6) := by rw [upd_ne (ne_of_none e1 htp)]; exact e1
          have k6 : TK H6 (upd (upd H6 tp (.tup [vN (actT T i a), vN (actT T i b)])) L (.lst (us6 ++ [V.ref tp]))) := (TK.new htp).trans (TK.lst e1')
          refine ⟨us6, e1', small1000 (by omega), (s6.new htp).mut hL, us6 ++ [V.ref tp], ps6 ++ [(actT T i a, actT T i b)], upd_same, psnoc (pmap e2 fun _ _ z => thP.keep k6 z) ⟨tp, rfl, by rw [upd_ne (ne_of_none e1 htp).symm, upd_same]⟩, by rw [List.length_append, e3]; rfl, fun z hz => ?_⟩
          obtain hz | hz := List.mem_append.mp hz
          · exact e4 z hz
          · rw [List.eq_of_mem_singleton hz]
            exact ⟨cl i hiD _ hg.1, cl i hiD _ hg.2.1, hg.2.2.step hiD⟩
        · rintro H6 ⟨s6, us6, ps6, e1, e2, e3, e4⟩
          have hw6 := s6 _ _ hw5
          refine ⟨wl, L, us', us6, rfl, rfl, hw6, e1, Nat.le_of_lt (small1000 (by omega)), ?_⟩
          have k6 : TK H6 (upd H6 wl (.lst (us' ++ us6))) := TK.lst hw6
          refine ⟨_, _, us' ++ us6, ps' ++ ps6, _, _, ?_, rfl, (sH5.trans s6).mut wl0, pa5.keep (fun o e => by rw [upd_ne npw]; exact s6 _ _ e) (fun o e => by rw [upd_ne ndw]; exact s6 _ _ e) ((TK.of s6).trans k6), eq5, upd_same, papp (pmap ps5 fun _ _ z => thP.keep ((TK.of s6).trans k6) z) (pmap e2 fun _ _ z => thP.keep k6 z), fun z hz => ?_⟩
          · rw [List.length_append]; omega
          · obtain hz | hz := List.mem_append.mp hz
            · exact g5 z hz
            · exact e4 z hz
    · obtain ⟨dx1, hp1⟩ := pa1.ob
      refine ⟨_, rfl, p, dx1, _, rfl, hp1, (lk1 (by decide +kernel) rfl), p, d, S, h, r, rfl, pa1, hnd, by omega, fun q H' us lots sF hqF pF ok => ?_⟩
      refine k q H' us lots (s1'.trans sF) hqF pF ⟨fun z => ?_, fun lot hlot => ?_⟩
      · obtain ⟨lot, hlot, _⟩ := ok.all f hf
        rw [z] at hlot; cases hlot
      · obtain ⟨l1, l2, c, l3⟩ := ok.lot lot hlot
        refine ⟨l1, l2, fun s hs => ((l3 s).mp hs).1, fun s hs t ht => ?_⟩
        obtain ⟨a1, a2⟩ := (l3 s).mp hs
        obtain ⟨b1, b2⟩ := (l3 t).mp ht
        have e1 := heq s a1
        have e2 := heq t b1
        rw [a2] at e1
        rw [b2] at e2
        exact e1.trans per e2.symm
end
end OWP

/-! ## W13 -/
/-! W13: moves of a machine; lots. -/
namespace OWP
open PySem PySem.Spec PyProof.Rows L2 OWR OW
def compScope : Expr → Scope
  | .ListComp _ _ sc _ => sc
  | .Call _ [.ListComp _ _ sc _] _ _ => sc
  | _ => { names := [], kind := .function, isCoroutine := false, isGenerator := false }
/-- the scope of the comprehension that a def's i-th statement returns -/
def retScope (s : Stmt) (i : Nat) : Scope := match (defBody s).getD i (.Pass ⟨0, 0, 0, 0⟩) with
  | .Return (some e) _ => compScope e
  | _ => { names := [], kind := .function, isCoroutine := false, isGenerator := false }
/-- .. as it stands inside: what the def keeps in cells is at hand -/
def relab (sc fs : Scope) : Scope := { sc with names := sc.names.map fun (n, k) => if (k == .free && fs.kind == .function && fs.names.lookup n == some .cell) then (n, .cell) else (n, k) }
/-- a machine whose states that come are S, told -/
theorem _root_.OW.Mach.other {T : List (List Nat)} {f : Nat} {S S' : List Nat} (M : Mach T f S) (nd : S'.Nodup) (mem : ∀ x, x ∈ S' ↔ RchA (actT T) T.length f x) : Mach T f S' ∧ S'.length = S.length := by
  have h1 : ∀ x, x ∈ S' ↔ x ∈ S := fun x => (mem x).trans (M.mem x).symm
  have l1 := nodup_sub nd (m := S) fun x hx => (h1 x).mp hx
  have l2 := nodup_sub M.nd (m := S') fun x hx => (h1 x).mpr hx
  refine ⟨⟨M.len1, M.len2, nd, mem, by have := M.small; omega, fun d hd s hs t ht => M.inj d hd s ((h1 s).mp hs) t ((h1 t).mp ht)⟩, by omega⟩
theorem _root_.OW.Mach.exch {T : List (List Nat)} {f : Nat} {S : List Nat} (M : Mach T f S) : Exch T f := fun d s t hd hs ht e => M.inj d hd s ((M.mem s).mpr hs) t ((M.mem t).mpr ht) e
section
variable {P : Program} {w : World} {K : PySem.W.Frag} {mg : Str → Option Value} {base : Heap} {CM CC CP : Addr}
def spMoves (CM : Addr) : Sp := fun vs H Q _ => ∃ (m : Addr) (T : List (List Nat)) (n f : Nat), vs = [.ref m, vN f] ∧ MacAt CM H m T n ∧ Tabs T n ∧ f < n ∧
  ∀ q H' (S : List Nat), Same H H' → MovsAt H' q T.length S (actT T) → S.Nodup → (∀ x, x ∈ S ↔ RchA (actT T) T.length f x) → (∀ x, x ∈ S → x < n) → Q (.ref q) H'
theorem scMoves : FnScope ["machine", "first", "states", "state", "table"] ["machine", "first"] (defScope (topS 36)) := ⟨rfl, rfl, rfl, by decide +kernel, rfl, by decide +kernel, by decide +kernel⟩
theorem ok_moves {f : Addr} {fd : FuncData} (F : Fun K "moves_of" "moves_of" (topS 36) f fd) (Z : Gls mg) (TM : MacC K CM) (cr : Cal P w K mg base "reached" 5 ["machine", "first"] (spReached CM)) : FnOk P w K mg base CX0 6 f fd ["machine", "first"] (spMoves CM) := by
  refine F.ok scMoves (fun vs H Q E h => ?_) (fun cdv A outer s0 H vs Q E hr h => ?_)
  · obtain ⟨m, T, n, f, rfl, _⟩ := h; rfl
  · obtain ⟨m, T, n, f, rfl, hM, tb, hf, k⟩ := h
    have hu := hu_of hr
    have hu0 := hr.units0
    obtain ⟨dx, tt, us, hm, htt, hT⟩ := id hM
    have hlen : us.length = T.length := plen hT
    refine ⟨_, pss_cons (ps_set (i := 2) scMoves.nd rfl (Or.inr rfl) (pe_cal cr hr (by rfl) (pa_cons (pv 0) (pa_cons (pv 1) pa_nil))))
      (pss_one (ps_ret (pe_lc (own := [("table", 4)]) (g := gName 4) (tt := tYes) (te := tDcA (thN.dic []) (iTup K (tVar 2)) (gName 3) tYes (tVar 3) (tOp (rIxT K) (tVar 4) (tVar 3)) [3]) rfl scMoves.nd (pi_tup (pe_fld (pv 0) rfl)) (blkOk_by (N := ["machine", "first", "states", "state", "table"]) (sc := defScope (topS 36)) (by decide +kernel))
        (fun _ _ _ _ _ => pg_name (i := 4) scMoves.nd rfl (Or.inr rfl)) (fun _ _ _ _ _ => pts_nil)
        (fun _ _ _ _ _ => pe_dcA (own := [("state", 3)]) (thN.dic []) thN.e0 hu0 rfl scMoves.nd (pi_tup (pv 2)) (blkOk_by (N := ["machine", "first", "states", "state", "table"]) (sc := relab (retScope (topS 36) 1) (defScope (topS 36))) (by decide +kernel))
          (fun _ _ _ _ _ => pg_name (i := 3) scMoves.nd rfl (Or.inl rfl)) (fun _ _ _ _ _ => pts_nil) (fun _ _ _ _ _ => pv 3) (fun _ _ _ _ _ => pe_ix (ix_tupK rfl) (pv 4) (pv 3) (fun _ _ => rfl)))))), ?_⟩
    refine ⟨_, rfl, _, rfl, m, T, n, f, rfl, hM, tb, hf, fun S0 H1 S s1 hS nd mem lt => ?_⟩
    have htt1 := s1 _ _ htt
    refine ⟨_, rfl, m, CM, dx, _, _, rfl, s1 _ _ hm, TM.cl, TM.tb, lk1 (by decide +kernel) (lk1 (by decide +kernel) lk0), tt, rfl, ⟨us, .inl (.inl htt1)⟩, fun L hL => ?_⟩
    refine lc_tup (K := K) (a := tt) (xs := us) (fun i H2 => Same H1 H2 ∧ ∃ ds, H2 L = some (.lst ds) ∧ ds.length = i ∧ ∀ d, d < i → ∃ b, ds[d]? = some (.ref b) ∧ MovAt H2 b S (actT T d)) ⟨Same.upd hL, [], upd_same, rfl, fun d hd => by omega⟩ (fun i H2 _ q => .inl (.inl (q.1 _ _ htt1))) ?_ ?_
    · rintro i x H2 hx ⟨s2, ds, e1, e2, e3⟩
      obtain ⟨l, hl, ⟨b, rfl, hb⟩⟩ := pget hT hx
      have hi : i < T.length := (List.getElem?_eq_some_iff.mp hl).1
      have hln : l.length = n := (tb.row l (List.mem_of_getElem? hl)).1
      have eact : ∀ x, l.getD x 0 = actT T i x := fun x => by unfold actT; rw [List.getD_eq_getElem?_getD (l := T), hl]; rfl
      have hS2 := s2 _ _ hS
      have hb2 := s2 _ _ (s1 _ _ hb)
      refine ⟨rfl, yes ⟨_, rfl, S0, rfl, ⟨_, .inl (.inl hS2)⟩, fun D hD => ?_⟩⟩
      have nLD : L ≠ D := ne_of_none e1 hD
      refine dc_it (walk_tup (xs := S.map vN)) (fun j H3 => Same H2 H3 ∧ ∃ kvs : List (Nat × V), H3 D = some (thN.dic kvs) ∧ kvs.map (·.1) = S.take j ∧ ∀ t, t ∈ S.take j → valV kvs t = some (vN (actT T i t))) ⟨Same.upd hD, [], upd_same, by simp, fun t ht => by simp at ht⟩ (fun j H3 _ q => .inl (.inl (q.1 _ _ hS2))) ?_ ?_
      · rintro j x H3 H4 hj ⟨s3, kvs, d3, ek, av⟩ ⟨rfl, hx⟩
        obtain ⟨t, ht, rfl⟩ := map_vN_get hx
        have hjS : j < S.length := (List.getElem?_eq_some_iff.mp ht).1
        have hnot : t ∉ S.take j := fun hm => by
          obtain ⟨j', hj', ej⟩ := List.getElem_of_mem hm
          have hj2 : j' < j := by rw [List.length_take] at hj'; omega
          have : S[j']? = some t := by rw [← ej, List.getElem_take]; exact List.getElem?_eq_getElem _
          have := nd_ix nd this ht
          omega
        have hn : valV kvs t = none := valV_out (by rw [ek]; exact hnot)
        have lS : S.length ≤ n := by
          have := nodup_sub nd (m := List.range n) fun x hx => List.mem_range.mpr (lt x hx)
          rwa [List.length_range] at this
        have lenk : kvs.length ≤ 8 := by
          have := congrArg List.length ek
          rw [List.length_map, List.length_take] at this
          have := tb.n8
          omega
        have htn := lt t (List.mem_of_getElem? ht)
        refine ⟨rfl, yes ⟨_, rfl, _, rfl, _, rfl, b, _, _, _, rfl, rfl, .inl (.inl (s3 _ _ hb2)), at_vN (i := t) (by omega), _, thN.put (v := vN t) (t := t) d3 rfl (small1000 (by omega)), s3.mut hD, _, upd_same, ?_, fun t' ht' => ?_⟩⟩
        · rw [putK_keysN _ _ _ hn, ek, List.take_add_one, ht]; rfl
        · rw [valV_put, eact]
          by_cases q : t' = t
          · rw [if_pos q, q]
          · rw [if_neg q]
            rw [List.take_add_one, ht] at ht'
            rcases List.mem_append.mp ht' with z | z
            · exact av t' z
            · simp at z; exact absurd z q
      · rintro H3 ⟨s3, kvs, d3, ek, av⟩
        have lS : (S.map vN).length = S.length := List.length_map _
        rw [lS, List.take_length] at ek av
        have e1' := s3 _ _ e1
        have hL1 : H1 L = none := hL
        have nDL : D ≠ L := nLD.symm
        refine ⟨ds, e1', small1000 (by have := tb.len4; omega), (s2.trans s3).mut hL1, ds ++ [.ref D], upd_same, by rw [List.length_append, e2]; rfl, fun d hd => ?_⟩
        by_cases q : d = i
        · subst q
          refine ⟨D, ?_, kvs, by rw [upd_ne nDL]; exact d3, ek, av⟩
          rw [List.getElem?_append_right (by omega), e2, Nat.sub_self]; rfl
        · obtain ⟨b', h1, kv', h2, h3, h4⟩ := e3 d (by omega)
          refine ⟨b', ?_, kv', ?_, h3, h4⟩
          · rw [List.getElem?_append_left (by omega)]; exact h1
          · have nb : b' ≠ L := ne_of h2 e1 fun z => thN.nlst _ _ z
            rw [upd_ne nb]; exact s3 _ _ h2
    · rintro H2 ⟨s2, ds, e1, e2, e3⟩
      rw [hlen] at e2 e3
      exact k L H2 S (s1.trans s2) ⟨⟨ds, e1, e2, e3⟩⟩ nd mem lt
end
end OWP

/-! ## W14 -/
/-! W14: lots of a machine. -/
namespace OWP
open PySem PySem.Spec PyProof.Rows L2 OWR OW
section
variable {P : Program} {w : World} {K : PySem.W.Frag} {mg : Str → Option Value} {base : Heap} {CM CC CP : Addr}
/-- all that is known of a machine, its first state, its counters' rounds -/
structure Sys (T : List (List Nat)) (n f : Nat) (S R : List Nat) : Prop where
  tb : Tabs T n
  lt : f < n
  mach : Mach T f S
  rl : R.length = T.length
  r60 : ∀ x, x ∈ R → x ≤ 60
def spSettled (CM : Addr) : Sp := fun vs H Q _ => ∃ (m pa ra : Addr) (T : List (List Nat)) (n f : Nat) (S R : List Nat) (xs : List V), vs = [.ref m, vN f, .ref pa, .ref ra] ∧ MacAt CM H m T n ∧ Sys T n f S R ∧ H pa = some (.lst xs) ∧ Paired (repP H) xs (apairs T.length) ∧ H ra = some (.tup (R.map vN)) ∧
  ∀ q H' us lots, Same H H' → H' q = some (.tup us) → Paired (LotRep thN H') us lots → LotsGood T f S R lots → Q (.ref q) H'
theorem scSettled : FnScope ["machine", "first", "pairs", "rounds"] ["machine", "first", "pairs", "rounds"] (defScope (topS 37)) := ⟨rfl, rfl, rfl, by decide +kernel, rfl, by decide +kernel, by decide +kernel⟩
theorem ok_settled {f : Addr} {fd : FuncData} (F : Fun K "settled" "settled" (topS 37) f fd) (cn : Cal P w K mg base "need_state" 4 ["machine", "state"] (spNeedSt CM)) (ce : Cal P w K mg base "need_exchanges" 7 ["machine", "first"] (spExch CM))
    (cm : Cal P w K mg base "moves_of" 6 ["machine", "first"] (spMoves CM)) (cl : Cal P w K mg base "lots_by_moves" 3 ["moves", "pairs", "rounds"] spLotsBy) : FnOk P w K mg base CX0 8 f fd ["machine", "first", "pairs", "rounds"] (spSettled CM) := by
  refine F.ok scSettled (fun vs H Q E h => ?_) (fun cdv A outer s0 H vs Q E hr h => ?_)
  · obtain ⟨m, pa, ra, T, n, f, S, R, xs, rfl, _⟩ := h; rfl
  · obtain ⟨m, pa, ra, T, n, f, S, R, xs, rfl, hM, Y, hpa, hxs, hra, k⟩ := h
    refine ⟨_, pss_cons (ps_expr (pe_cal cn (hr.mono (by decide)) (by rfl) (pa_cons (pv 0) (pa_cons (pv 1) pa_nil))))
      (pss_cons (ps_expr (pe_cal ce hr (by rfl) (pa_cons (pv 0) (pa_cons (pv 1) pa_nil))))
      (pss_one (ps_ret (pe_cal cl (hr.mono (by decide)) (by rfl) (pa_cons (pe_cal cm (hr.mono (by decide)) (by rfl) (pa_cons (pv 0) (pa_cons (pv 1) pa_nil))) (pa_cons (pv 2) (pa_cons (pv 3) pa_nil))))))), ?_⟩
    refine ⟨_, rfl, _, rfl, m, T, n, f, rfl, hM, Y.lt, ?_⟩
    refine ⟨_, rfl, _, rfl, m, T, n, f, rfl, hM, Y.tb, Y.lt, Y.mach.exch, fun H1 s1 => ?_⟩
    refine ⟨_, rfl, _, rfl, m, T, n, f, rfl, hM.keep s1, Y.tb, Y.lt, fun q H2 S' s2 mv nd mem lt => ?_⟩
    have sH := s1.trans s2
    obtain ⟨M', hl⟩ := Y.mach.other nd mem
    refine ⟨_, rfl, _, rfl, q, pa, ra, T, S', R, f, turnOf S'.length, xs, rfl, mv, Y.tb.len1, Y.tb.len4, by have := M'.small; omega, nd, (mem f).mpr RchA.start, Y.rl, Y.r60, fun d hd s hs => M'.cl hd hs, fun s hs => (mem s).mp hs, M'.per, sH _ _ hpa, pmap hxs fun _ _ z => thP.keep (.of sH) z, sH _ _ hra, fun q2 H3 us lots s3 hq hp ok => ?_⟩
    refine k q2 H3 us lots (sH.trans s3) hq hp ⟨ok.ne, fun lot hlot => ?_⟩
    obtain ⟨a1, a2, a3, a4⟩ := ok.lot lot hlot
    exact ⟨a1, a2, fun s hs => (Y.mach.mem s).mpr ((mem s).mp (a3 s hs)), a4⟩
def spKept (CM CC : Addr) : Sp := fun vs H Q _ => ∃ (m c : Addr) (T : List (List Nat)) (n f : Nat) (S R : List Nat), vs = [.ref m, vN f, .ref c] ∧ MacAt CM H m T n ∧ CtrAt CC H c R ∧ Sys T n f S R ∧ Q .non H
theorem scKept : FnScope ["machine", "first", "counters"] ["machine", "first", "counters"] (defScope (topS 39)) := ⟨rfl, rfl, rfl, by decide +kernel, rfl, by decide +kernel, by decide +kernel⟩
theorem ok_kept {f : Addr} {fd : FuncData} (F : Fun K "need_kept" "need_kept" (topS 39) f fd) (cn : Cal P w K mg base "need_state" 4 ["machine", "state"] (spNeedSt CM)) (cf : Cal P w K mg base "need_fit" 1 ["machine", "counters"] (spFit CM CC)) : FnOk P w K mg base CX0 5 f fd ["machine", "first", "counters"] (spKept CM CC) := by
  refine F.ok scKept (fun vs H Q E h => ?_) (fun cdv A outer s0 H vs Q E hr h => ?_)
  · obtain ⟨m, c, T, n, f, S, R, rfl, _⟩ := h; rfl
  · obtain ⟨m, c, T, n, f, S, R, rfl, hM, hC, Y, k⟩ := h
    refine ⟨_, pss_cons (ps_expr (pe_cal cn (hr.mono (by decide)) (by rfl) (pa_cons (pv 0) (pa_cons (pv 1) pa_nil))))
      (pss_one (ps_expr (pe_cal cf (hr.mono (by decide)) (by rfl) (pa_cons (pv 0) (pa_cons (pv 2) pa_nil))))), ?_⟩
    refine ⟨_, rfl, _, rfl, m, T, n, f, rfl, hM, Y.lt, ?_⟩
    exact ⟨_, rfl, _, rfl, m, c, T, n, R, rfl, hM, hC, Y.rl, k⟩
def spLotsOf (CM CC : Addr) : Sp := fun vs H Q _ => ∃ (m c : Addr) (T : List (List Nat)) (n f : Nat) (S R : List Nat), vs = [.ref m, vN f, .ref c] ∧ MacAt CM H m T n ∧ CtrAt CC H c R ∧ Sys T n f S R ∧
  ∀ q H' us lots, Same H H' → H' q = some (.tup us) → Paired (LotRep thN H') us lots → LotsGood T f S R lots → Q (.ref q) H'
theorem scLotsOf : FnScope ["machine", "first", "counters"] ["machine", "first", "counters"] (defScope (topS 40)) := ⟨rfl, rfl, rfl, by decide +kernel, rfl, by decide +kernel, by decide +kernel⟩
theorem ok_lotsof {f : Addr} {fd : FuncData} (F : Fun K "lots_of" "lots_of" (topS 40) f fd) (TM : MacC K CM) (TC : CtrC K CC) (ck : Cal P w K mg base "need_kept" 5 ["machine", "first", "counters"] (spKept CM CC)) (cs : Cal P w K mg base "settled" 8 ["machine", "first", "pairs", "rounds"] (spSettled CM))
    (cp : Cal P w K mg base "all_pairs" 1 ["deeds"] spPairs) : FnOk P w K mg base CX0 9 f fd ["machine", "first", "counters"] (spLotsOf CM CC) := by
  refine F.ok scLotsOf (fun vs H Q E h => ?_) (fun cdv A outer s0 H vs Q E hr h => ?_)
  · obtain ⟨m, c, T, n, f, S, R, rfl, _⟩ := h; rfl
  · obtain ⟨m, c, T, n, f, S, R, rfl, hM, hC, Y, k⟩ := h
    refine ⟨_, pss_cons (ps_expr (pe_cal ck (hr.mono (by decide)) (by rfl) (pa_cons (pv 0) (pa_cons (pv 1) (pa_cons (pv 2) pa_nil)))))
      (pss_one (ps_ret (pe_cal cs hr (by rfl) (pa_cons (pv 0) (pa_cons (pv 1) (pa_cons (pe_cal cp (hr.mono (by decide)) (by rfl) (pa_cons (pe_fld (pv 0) rfl) pa_nil)) (pa_cons (pe_fld (pv 2) rfl) pa_nil))))))), ?_⟩
    obtain ⟨dx, tt, us0, hm, htt, hT⟩ := id hM
    obtain ⟨dy, q, rs, hc, hq⟩ := id hC
    refine ⟨_, rfl, _, rfl, _, rfl, m, c, T, n, f, S, R, rfl, hM, hC, Y, ?_⟩
    refine ⟨_, rfl, _, rfl, _, rfl, m, CM, dx, _, _, rfl, hm, TM.cl, TM.dd, lk1 (by decide +kernel) lk0, T.length, rfl, Y.tb.len4, fun pl H1 xs s1 hpl hxs => ?_⟩
    refine ⟨_, rfl, c, CC, dy, _, _, rfl, s1 _ _ hc, TC.cl, TC.rd, lk1 (by decide +kernel) lk0, m, pl, q, T, n, f, S, R, xs, rfl, hM.keep s1, Y, hpl, hxs, s1 _ _ hq, fun q2 H3 us lots s3 h1 h2 h3 => ?_⟩
    exact k q2 H3 us lots (s1.trans s3) h1 h2 h3
end
end OWP

/-! ## W15 -/
/-! W15: parted lots. -/
namespace OWP
open PySem PySem.Spec PyProof.Rows L2 OWR OW
theorem nodup_of_len {α : Type} [DecidableEq α] : ∀ {m keys : List α}, keys.Nodup → (∀ x, x ∈ keys → x ∈ m) → m.length ≤ keys.length → m.Nodup
  | [], _, _, _, _ => List.nodup_nil
  | a :: m, keys, nd, sub, hl => by
    have ha : a ∉ m := fun ha => by
      have := nodup_sub nd (m := m) fun x hx => by
        rcases List.mem_cons.mp (sub x hx) with rfl | h
        · exact ha
        · exact h
      rw [List.length_cons] at hl; omega
    refine List.nodup_cons.mpr ⟨ha, nodup_of_len (keys := keys.erase a) (nd.erase a) (fun x hx => ?_) ?_⟩
    · have hne : x ≠ a := fun e => by subst e; exact (List.Nodup.mem_erase_iff nd).mp hx |>.1 rfl
      rcases List.mem_cons.mp (sub x (List.mem_of_mem_erase hx)) with h | h
      · exact absurd h hne
      · exact h
    · have := List.length_erase_of_mem (a := a) (l := keys)
      by_cases h : a ∈ keys
      · rw [this h]; rw [List.length_cons] at hl; omega
      · rw [List.erase_of_not_mem h]; rw [List.length_cons] at hl; omega
/-- keys put one behind another: each once -/
structure Ks {τ : Type} [DecidableEq τ] (kvs : List (τ × V)) (m : List τ) : Prop where
  nd : (kvs.map (·.1)).Nodup
  mem : ∀ x, x ∈ kvs.map (·.1) ↔ x ∈ m
theorem Ks.put {τ : Type} [DecidableEq τ] {kvs : List (τ × V)} {m : List τ} (k : Ks kvs m) (t : τ) (v : V) : Ks (putK kvs t v) (m ++ [t]) := by
  by_cases h : valV kvs t = none
  · rw [show Ks (putK kvs t v) (m ++ [t]) ↔ Ks (putK kvs t v) (m ++ [t]) from Iff.rfl]
    have hn : t ∉ kvs.map (·.1) := fun z => by
      obtain ⟨p, hp, rfl⟩ := List.mem_map.mp z
      have : ∀ {l : List (τ × V)}, p ∈ l → valV l p.1 ≠ none := by
        intro l hl
        induction l with
        | nil => cases hl
        | cons a l ih =>
          by_cases q : a.1 = p.1
          · rw [valV_pos q]; exact fun z => nomatch z
          · rw [valV_neg q]
            obtain rfl | hl := List.mem_cons.mp hl
            · exact absurd rfl q
            · exact ih hl
      exact this hp h
    refine ⟨?_, fun x => ?_⟩
    · rw [putK_keysN _ _ _ h]
      exact List.nodup_append.mpr ⟨k.nd, by simp, fun a ha b hb => by simp at hb; subst hb; exact fun z => hn (z ▸ ha)⟩
    · rw [putK_keysN _ _ _ h, List.mem_append, List.mem_append, k.mem x]
  · have ht : t ∈ m := (k.mem t).mp (by
      cases q : valV kvs t with
      | none => exact absurd q h
      | some x => exact valV_mem q)
    refine ⟨?_, fun x => ?_⟩
    · rw [putK_keys _ _ _ h]; exact k.nd
    · rw [putK_keys _ _ _ h, k.mem x, List.mem_append, List.mem_singleton]
      exact ⟨.inl, fun z => z.elim id fun z => z ▸ ht⟩
theorem Ks.len {τ : Type} [DecidableEq τ] {kvs : List (τ × V)} {m : List τ} (k : Ks kvs m) : kvs.length ≤ m.length := by
  have := nodup_sub k.nd (m := m) fun x hx => (k.mem x).mp hx
  rwa [List.length_map] at this
theorem Ks.iff {τ : Type} [DecidableEq τ] {kvs : List (τ × V)} {m : List τ} (k : Ks kvs m) : kvs.length = m.length ↔ m.Nodup := by
  constructor
  · intro h
    exact nodup_of_len k.nd (fun x hx => (k.mem x).mp hx) (by rw [List.length_map]; omega)
  · intro h
    have h1 := k.len
    have h2 := nodup_sub h (m := kvs.map (·.1)) fun x hx => (k.mem x).mpr hx
    rw [List.length_map] at h2
    omega
section
variable {P : Program} {w : World} {K : PySem.W.Frag} {mg : Str → Option Value} {base : Heap} {CM CC CP : Addr}
def spParted : Sp := fun vs H Q _ => ∃ (a : Addr) (l : List (Nat × Nat)), vs = [.ref a] ∧ LotRep thP H (.ref a) l ∧ l.Nodup ∧ l.length ≤ 1000 ∧ ∀ H', Same H H' → Q (.bl (decide (l.map (·.2)).Nodup)) H'
theorem scParted : FnScope ["pairs", "standing", "state", "pair"] ["pairs"] (defScope (topS 42)) := ⟨rfl, rfl, rfl, by decide +kernel, rfl, by decide +kernel, by decide +kernel⟩
theorem ok_parted {f : Addr} {fd : FuncData} (F : Fun K "are_parted" "are_parted" (topS 42) f fd) (Z : Gls mg) : FnOk P w K mg base CX0 1 f fd ["pairs"] spParted := by
  refine F.ok scParted (fun vs H Q E h => ?_) (fun cdv A outer s0 H vs Q E hr h => ?_)
  · obtain ⟨a, l, rfl, _⟩ := h; rfl
  · obtain ⟨a, l, rfl, ⟨_, xs, ea, ha, hxs⟩, hnd, hl, k⟩ := h
    cases ea
    have hu0 := hr.units0
    refine ⟨_, pss_one (ps_ret (pe_cmpR op_eq
      (pe_callB call_lenD (by rfl) Z.len (by decide +kernel) (pa_cons (pe_dcA (own := [("state", 2), ("standing", 1)]) (g := gTup K 2 (gCons (gName 2) (gCons (gName 1) gNil))) (tt := tYes) (tk := tVar 1) (tv := tC (.bl true)) (thN.dic []) thN.e0 hu0 rfl scParted.nd (pi_tup (pv 0)) (blkOk_by (N := ["pairs", "standing", "state", "pair"]) (sc := defScope (topS 42)) (by decide +kernel))
        (fun _ _ _ _ _ => pg_tup rfl (pgs_cons (pg_name (i := 2) scParted.nd rfl (.inl rfl)) (pgs_cons (pg_name (i := 1) scParted.nd rfl (.inl rfl)) pgs_nil))) (fun _ _ _ _ _ => pts_nil) (fun _ _ _ _ _ => pv 1) (fun _ _ _ _ _ => pe_bl)) pa_nil))
      (pe_callB call_len_dT (by rfl) Z.len (by decide +kernel) (pa_cons (pe_dcA (own := [("pair", 3)]) (g := gName 3) (tt := tYes) (tk := tVar 3) (tv := tC (.bl true)) (thP.dic []) thP.e0 hu0 rfl scParted.nd (pi_tup (pv 0)) (blkOk_by (N := ["pairs", "standing", "state", "pair"]) (sc := defScope (topS 42)) (by decide +kernel))
        (fun _ _ _ _ _ => pg_name (i := 3) scParted.nd rfl (.inl rfl)) (fun _ _ _ _ _ => pts_nil) (fun _ _ _ _ _ => pv 3) (fun _ _ _ _ _ => pe_bl)) pa_nil)) (nomark _))), ?_⟩
    have lx : xs.length = l.length := plen hxs
    refine ⟨_, rfl, a, rfl, ⟨_, .inl (.inl ha)⟩, fun D hD => ?_⟩
    refine dc_it (walk_tup (xs := xs)) (fun i H2 => Same H H2 ∧ ∃ kvs : List (Nat × V), H2 D = some (thN.dic kvs) ∧ Ks kvs ((l.take i).map (·.2))) ⟨Same.upd hD, [], upd_same, ⟨by simp, fun x => by simp⟩⟩ (fun i H2 _ q => .inl (.inl (q.1 _ _ ha))) ?_ ?_
    · rintro i x Hx H2 hi ⟨s2, kvs, d2, ks⟩ ⟨rfl, hx⟩
      obtain ⟨⟨st, sd⟩, hp, ⟨q, rfl, hq⟩⟩ := pget hxs hx
      have hkl := ks.len
      rw [List.length_map] at hkl
      have := List.length_take_le' i l
      refine ⟨q, _, rfl, .inl (.inl (s2 _ _ hq)), rfl, _, _, rfl, _, _, rfl, rfl, rfl, yes ⟨_, rfl, _, thN.put (v := vN sd) (t := sd) d2 rfl (small1000 (by omega)), s2.mut hD, _, upd_same, ?_⟩⟩
      have := ks.put sd (.bl true)
      rw [List.take_add_one, hp, List.map_append]
      exact this
    · rintro H2 ⟨s2, kvs, d2, ks⟩
      rw [lx, List.take_length] at ks
      refine ⟨D, _, rfl, d2, ?_⟩
      refine ⟨_, rfl, a, rfl, ⟨_, .inl (.inl (s2 _ _ ha))⟩, fun D2 hD2 => ?_⟩
      refine dc_it (walk_tup (xs := xs)) (fun i H3 => Same H2 H3 ∧ ∃ kvs : List ((Nat × Nat) × V), H3 D2 = some (thP.dic kvs) ∧ Ks kvs (l.take i)) ⟨Same.upd hD2, [], upd_same, ⟨by simp, fun x => by simp⟩⟩ (fun i H3 _ q => .inl (.inl (q.1 _ _ (s2 _ _ ha)))) ?_ ?_
      · rintro i x Hx H3 hi ⟨s3, kv2, d3, ks3⟩ ⟨rfl, hx⟩
        obtain ⟨p, hp, rp⟩ := pget hxs hx
        have hkl := ks3.len
        have := List.length_take_le' i l
        refine ⟨rfl, yes ⟨_, rfl, _, thP.put (t := p) d3 (thP.keep (.of (s2.trans s3)) rp) (small1000 (by omega)), s3.mut hD2, _, upd_same, ?_⟩⟩
        have := ks3.put p (.bl true)
        rw [List.take_add_one, hp]
        exact this
      · rintro H3 ⟨s3, kv2, d3, ks3⟩
        rw [lx, List.take_length] at ks3
        refine ⟨D2, _, rfl, d3, rfl, ?_⟩
        have e2 := ks3.iff.mpr hnd
        have e1 := ks.iff
        rw [List.length_map] at e1
        have key : decide (V.int ((mapK keyN kvs).length : Nat) = V.int ((mapK keyP kv2).length : Nat)) = decide (l.map (·.2)).Nodup := by
          rw [mapK_len, mapK_len, e2]
          refine decide_eq_decide.mpr ⟨fun z => e1.mp ?_, fun z => ?_⟩
          · injection z with z; omega
          · rw [e1.mpr z]
        have := k H3 (s2.trans s3)
        rw [← key] at this
        exact this
end
end OWP

/-! ## W16 -/
/-! W16: begun moves: what the search for things keeps. -/
namespace OWP
open PySem PySem.Spec PyProof.Rows L2 OWR OW
def oV : Option Nat → V
  | none => .non
  | some n => vN n
def BTat (H : Hp) (v : V) (B : Bgn) : Prop := ∃ a vs, v = .ref a ∧ H a = some (.tup vs) ∧ Paired (fun u (row : List (Option Nat)) => ∃ b, u = .ref b ∧ H b = some (.tup (row.map oV))) vs B
theorem BTat.keep {H H' : Hp} {v : V} {B : Bgn} (h : BTat H v B) (k : TK H H') : BTat H' v B := let ⟨a, vs, e, x, p⟩ := h; ⟨a, vs, e, k _ _ x, pmap p fun _ _ ⟨b, e, y⟩ => ⟨b, e, k _ _ y⟩⟩
theorem at_oV {l : List (Option Nat)} {i : Nat} (h : i < l.length) : atI (l.map oV) ((i : Nat) : Int) = some (oV (l.getD i none)) := by
  refine atI_nat ?_
  rw [List.getElem?_map, List.getElem?_eq_getElem h, getD_at h]; rfl
theorem len64 {l : List (Nat × Nat)} (nd : l.Nodup) (h : ∀ p, p ∈ l → p.1 < 8 ∧ p.2 < 8) : l.length ≤ 64 := by
  have nd2 : (l.map fun p => p.1 * 8 + p.2).Nodup := nodup_map nd fun x hx y hy e => by
    have a := h x hx
    have b := h y hy
    exact Prod.ext (by omega) (by omega)
  have := nodup_sub nd2 (m := List.range 64) fun z hz => by
    obtain ⟨p, hp, rfl⟩ := List.mem_map.mp hz
    have := h p hp
    exact List.mem_range.mpr (by omega)
  rw [List.length_map, List.length_range] at this
  exact this
def OptR (H : Hp) (o : Option V) (m : Option (Nat × Nat)) : Prop := (o = none ∧ m = none) ∨ ∃ v q, o = some v ∧ m = some q ∧ repP H v q
theorem OptR.keep {H H' : Hp} {o : Option V} {m : Option (Nat × Nat)} (h : OptR H o m) (k : TK H H') : OptR H' o m := by
  rcases h with h | ⟨v, q, a, b, c⟩
  · exact .inl h
  · exact .inr ⟨v, q, a, b, thP.keep k c⟩
structure Kb (kvs : List ((Nat × Nat) × V)) : Prop where
  nd : (kvs.map (·.1)).Nodup
  lt : ∀ p, p ∈ kvs.map (·.1) → p.1 < 8 ∧ p.2 < 8
theorem Kb.len {kvs : List ((Nat × Nat) × V)} (k : Kb kvs) : kvs.length ≤ 64 := by
  have := len64 k.nd k.lt
  rwa [List.length_map] at this
theorem Kb.put {kvs : List ((Nat × Nat) × V)} (k : Kb kvs) {t : Nat × Nat} (ht : t.1 < 8 ∧ t.2 < 8) (v : V) : Kb (putK kvs t v) := by
  have ks : Ks kvs (kvs.map (·.1)) := ⟨k.nd, fun _ => Iff.rfl⟩
  have := ks.put t v
  refine ⟨this.nd, fun p hp => ?_⟩
  rcases List.mem_append.mp ((this.mem p).mp hp) with z | z
  · exact k.lt p z
  · rw [List.mem_singleton.mp z]; exact ht
/-- what the search has found (F), has yet to look at (W), has told of the moves (g); ex: what is looked at just now -/
structure RP (D : Nat) (mv : Nat → Nat × Nat → Option (Nat × Nat)) (x0 : Nat × Nat) (dom : Nat × Nat → Prop) (F W : List (Nat × Nat)) (g : Nat → Nat × Nat → Option (Nat × Nat)) (ex : Nat × Nat → Nat → Prop) : Prop where
  nd : F.Nodup
  sub : ∀ x, x ∈ W → x ∈ F
  first : x0 ∈ F
  rch : ∀ x, x ∈ F → dom x
  wl : W.length ≤ F.length
  gm : ∀ d x, g d x = none ∨ g d x = mv d x
  cl : ∀ x, x ∈ F → x ∉ W → ∀ d, d < D → ¬ ex x d → g d x = mv d x ∧ ∀ y, mv d x = some y → y ∈ F
section
variable {D : Nat} {mv g : Nat → Nat × Nat → Option (Nat × Nat)} {x0 s : Nat × Nat} {dom : Nat × Nat → Prop} {F W : List (Nat × Nat)} {i : Nat}
theorem RP.pop (r : RP D mv x0 dom F (W ++ [s]) g (fun _ _ => False)) : RP D mv x0 dom F W g (fun x d => x = s ∧ 0 ≤ d) where
  nd := r.nd
  sub := fun x hx => r.sub x (List.mem_append_left _ hx)
  first := r.first
  rch := r.rch
  wl := by have := r.wl; rw [List.length_append] at this; omega
  gm := r.gm
  cl := fun x hx hn d hd he => r.cl x hx (fun hm => by
    obtain h | h := List.mem_append.mp hm
    · exact hn h
    · exact he ⟨List.mem_singleton.mp h, Nat.zero_le _⟩) d hd id
theorem ex_next {x : Nat × Nat} {d : Nat} (h : ¬ (x = s ∧ i + 1 ≤ d)) (h2 : ¬ (x = s ∧ d = i)) : ¬ (x = s ∧ i ≤ d) := fun q => h ⟨q.1, by have := q.2; have : d ≠ i := fun z => h2 ⟨q.1, z⟩; omega⟩
theorem RP.no (r : RP D mv x0 dom F W g (fun x d => x = s ∧ i ≤ d)) (h : mv i s = none) : RP D mv x0 dom F W g (fun x d => x = s ∧ i + 1 ≤ d) where
  nd := r.nd
  sub := r.sub
  first := r.first
  rch := r.rch
  wl := r.wl
  gm := r.gm
  cl := fun x hx hn d hd he => by
    by_cases hxs : x = s ∧ d = i
    · rw [hxs.1, hxs.2, h]
      refine ⟨?_, fun y hy => nomatch hy⟩
      rcases r.gm i s with z | z
      · exact z
      · rw [z, h]
    · exact r.cl x hx hn d hd (ex_next he hxs)
def setG (g : Nat → Nat × Nat → Option (Nat × Nat)) (i : Nat) (s y : Nat × Nat) : Nat → Nat × Nat → Option (Nat × Nat) := fun d x => if d = i ∧ x = s then some y else g d x
theorem RP.old (r : RP D mv x0 dom F W g (fun x d => x = s ∧ i ≤ d)) {y : Nat × Nat} (h : mv i s = some y) (hy : y ∈ F) : RP D mv x0 dom F W (setG g i s y) (fun x d => x = s ∧ i + 1 ≤ d) where
  nd := r.nd
  sub := r.sub
  first := r.first
  rch := r.rch
  wl := r.wl
  gm := fun d x => by
    unfold setG
    by_cases q : d = i ∧ x = s
    · rw [if_pos q, q.1, q.2, h]; exact .inr rfl
    · rw [if_neg q]; exact r.gm d x
  cl := fun x hx hn d hd he => by
    unfold setG
    by_cases hxs : x = s ∧ d = i
    · rw [if_pos ⟨hxs.2, hxs.1⟩, hxs.1, hxs.2, h]
      exact ⟨rfl, fun z hz => by cases hz; exact hy⟩
    · rw [if_neg fun z => hxs ⟨z.2, z.1⟩]
      exact r.cl x hx hn d hd (ex_next he hxs)
theorem RP.add (r : RP D mv x0 dom F W g (fun x d => x = s ∧ i ≤ d)) {y : Nat × Nat} (h : mv i s = some y) (hy : y ∉ F) (hdom : dom y) : RP D mv x0 dom (F ++ [y]) (W ++ [y]) (setG g i s y) (fun x d => x = s ∧ i + 1 ≤ d) where
  nd := List.nodup_append.mpr ⟨r.nd, by simp, fun x hx z hz => by simp at hz; subst hz; exact fun e => hy (e ▸ hx)⟩
  sub := fun x hx => by
    obtain q | q := List.mem_append.mp hx
    · exact List.mem_append_left _ (r.sub x q)
    · exact List.mem_append_right _ q
  first := List.mem_append_left _ r.first
  rch := fun x hx => by
    obtain q | q := List.mem_append.mp hx
    · exact r.rch x q
    · rw [List.mem_singleton.mp q]; exact hdom
  wl := by have := r.wl; rw [List.length_append, List.length_append]; exact Nat.add_le_add_right this _
  gm := fun d x => by
    unfold setG
    by_cases q : d = i ∧ x = s
    · rw [if_pos q, q.1, q.2, h]; exact .inr rfl
    · rw [if_neg q]; exact r.gm d x
  cl := fun x hx hn d hd he => by
    obtain q | q := List.mem_append.mp hx
    · unfold setG
      by_cases hxs : x = s ∧ d = i
      · rw [if_pos ⟨hxs.2, hxs.1⟩, hxs.1, hxs.2, h]
        exact ⟨rfl, fun z hz => by cases hz; simp⟩
      · rw [if_neg fun z => hxs ⟨z.2, z.1⟩]
        have := r.cl x q (fun z => hn (List.mem_append_left _ z)) d hd (ex_next he hxs)
        exact ⟨this.1, fun z hz => List.mem_append_left _ (this.2 z hz)⟩
    · exact absurd (List.mem_append_right _ q) hn
theorem RP.done (r : RP D mv x0 dom F W g (fun x d => x = s ∧ D ≤ d)) : RP D mv x0 dom F W g (fun _ _ => False) where
  nd := r.nd
  sub := r.sub
  first := r.first
  rch := r.rch
  wl := r.wl
  gm := r.gm
  cl := fun x hx hn d hd _ => r.cl x hx hn d hd fun q => by have := q.2; omega
end
theorem RP.all {T : List (List Nat)} {f : Nat} {B : Bgn} {F : List (Nat × Nat)} {g : Nat → Nat × Nat → Option (Nat × Nat)} (r : RP T.length (mvB T B) (f, 0) (DomB T.length T f B) F [] g (fun _ _ => False)) (x : Nat × Nat) : x ∈ F ↔ DomB T.length T f B x := by
  refine ⟨r.rch x, fun ⟨u, hu, e⟩ => ?_⟩
  have go : ∀ (u : List Nat) (y z : Nat × Nat), Wd T.length u → y ∈ F → kEnd (mvB T B) u y = some z → z ∈ F := by
    intro u
    induction u with
    | nil => intro y z _ hy e; cases e; exact hy
    | cons d u ih =>
      intro y z hu hy e
      rw [kEnd_cons] at e
      cases h : mvB T B d y with
      | none => rw [h] at e; cases e
      | some y' =>
        rw [h] at e
        exact ih y' z hu.tail ((r.cl y hy (by simp) d hu.head id).2 y' h) e
  exact go u (f, 0) x hu r.first e
theorem dom_rch {T : List (List Nat)} {f : Nat} {B : Bgn} {p : Nat × Nat} (h : DomB T.length T f B p) : RchA (actT T) T.length f p.1 := by
  obtain ⟨w, hw, e⟩ := h
  refine ⟨w, hw, ?_⟩
  have := kEnd_map (g := Prod.fst) (bct := actT T) (mv := mvB T B) (D := T.length) (fun d x y _ e => by
    unfold mvB at e
    cases hb : bval B d x.2 with
    | none => rw [hb] at e; cases e
    | some b => rw [hb] at e; cases e; rfl) hw e
  exact this.symm
theorem rch_lt {T : List (List Nat)} {n f x : Nat} (tb : Tabs T n) (hf : f < n) (h : RchA (actT T) T.length f x) : x < n := by
  obtain ⟨w, hw, rfl⟩ := h
  have : ∀ (w : List Nat) (y : Nat), Wd T.length w → y < n → runA (actT T) w y < n := by
    intro w
    induction w with
    | nil => intro y _ h; exact h
    | cons d w ih => intro y hw h; exact ih _ hw.tail (tb.act hw.head h)
  exact this w f hw hf
/-- what stands in the heap -/
structure BI (T : List (List Nat)) (f : Nat) (B : Bgn) (H H2 : Hp) (ml fd wl : Addr) (bs : List Addr) (F W : List (Nat × Nat)) (g : Nat → Nat × Nat → Option (Nat × Nat)) (ex : Nat × Nat → Nat → Prop) : Prop where
  same : Same H H2
  ml0 : H ml = none
  fd0 : H fd = none
  wl0 : H wl = none
  mw : ml ≠ wl
  bnd : bs.Nodup
  bl : bs.length = T.length
  b0 : ∀ b, b ∈ bs → H b = none
  fb : fd ∉ bs
  ml2 : H2 ml = some (.lst (bs.map V.ref))
  mb : ∀ d, d < T.length → ∃ b kvs, bs[d]? = some b ∧ H2 b = some (thP.dic kvs) ∧ Kb kvs ∧ ∀ p, OptR H2 (valV kvs p) (g d p)
  fd2 : ∃ kvs, H2 fd = some (thP.dic kvs) ∧ kvs.map (·.1) = F
  wl2 : ∃ ws, H2 wl = some (.lst ws) ∧ Paired (repP H2) ws W
  rp : RP T.length (mvB T B) (f, 0) (DomB T.length T f B) F W g ex
section
variable {T : List (List Nat)} {f : Nat} {B : Bgn} {H H2 : Hp} {ml fd wl : Addr} {bs : List Addr} {F W : List (Nat × Nat)} {g : Nat → Nat × Nat → Option (Nat × Nat)} {ex ex' : Nat × Nat → Nat → Prop} {s : Nat × Nat} {i : Nat}
theorem BI.new (b : BI T f B H H2 ml fd wl bs F W g ex) {a : Addr} {o : HO} (ha : H2 a = none) : BI T f B H (upd H2 a o) ml fd wl bs F W g ex where
  same := b.same.new ha
  ml0 := b.ml0
  fd0 := b.fd0
  wl0 := b.wl0
  mw := b.mw
  bnd := b.bnd
  bl := b.bl
  b0 := b.b0
  fb := b.fb
  ml2 := at_new b.ml2 ha
  mb := fun d hd => let ⟨c, kvs, e1, e2, e3, e4⟩ := b.mb d hd; ⟨c, kvs, e1, at_new e2 ha, e3, fun p => (e4 p).keep (TK.new ha)⟩
  fd2 := let ⟨kvs, e1, e2⟩ := b.fd2; ⟨kvs, at_new e1 ha, e2⟩
  wl2 := let ⟨ws, e1, e2⟩ := b.wl2; ⟨ws, at_new e1 ha, pmap e2 fun _ _ z => thP.keep (TK.new ha) z⟩
  rp := b.rp
theorem BI.re (b : BI T f B H H2 ml fd wl bs F W g ex) (r : RP T.length (mvB T B) (f, 0) (DomB T.length T f B) F W g ex') : BI T f B H H2 ml fd wl bs F W g ex' := { b with rp := r }
theorem BI.put (b : BI T f B H H2 ml fd wl bs F W g ex) {c : Addr} {kvs : List ((Nat × Nat) × V)} {v : V} {y : Nat × Nat} (hi : bs[i]? = some c) (hc : H2 c = some (thP.dic kvs)) (hs8 : s.1 < 8 ∧ s.2 < 8) (rv : repP H2 v y) (r : RP T.length (mvB T B) (f, 0) (DomB T.length T f B) F W (setG g i s y) ex') :
    BI T f B H (upd H2 c (thP.dic (putK kvs s v))) ml fd wl bs F W (setG g i s y) ex' := by
  have hcb : c ∈ bs := List.mem_of_getElem? hi
  have c0 := b.b0 c hcb
  have kt := thP.tk hc (o := thP.dic (putK kvs s v))
  have hm := b.ml2
  obtain ⟨kf, hf1, hf2⟩ := b.fd2
  obtain ⟨ws, hw1, hw2⟩ := b.wl2
  have nfc : fd ≠ c := fun z => b.fb (z ▸ hcb)
  have nwc : wl ≠ c := ne_of hw1 hc fun z => thP.nlst _ _ z.symm
  have nmc : ml ≠ c := ne_of hm hc fun z => thP.nlst _ _ z.symm
  refine ⟨b.same.mut c0, b.ml0, b.fd0, b.wl0, b.mw, b.bnd, b.bl, b.b0, b.fb, by rw [upd_ne nmc]; exact hm, fun d hd => ?_, ⟨kf, by rw [upd_ne nfc]; exact hf1, hf2⟩, ⟨ws, by rw [upd_ne nwc]; exact hw1, pmap hw2 fun _ _ z => thP.keep kt z⟩, r⟩
  obtain ⟨c', kv', e1, e2, e3, e4⟩ := b.mb d hd
  by_cases q : d = i
  · subst q
    rw [hi] at e1
    cases e1
    rw [hc] at e2
    have ek : kv' = kvs := by
      have z := Option.some.inj e2
      have z : HO.dT (mapK keyP kvs) = HO.dT (mapK keyP kv') := z
      injection z with z
      have inj : ∀ {l l' : List ((Nat × Nat) × V)}, mapK keyP l = mapK keyP l' → l = l' := by
        intro l
        induction l with
        | nil => intro l' h; cases l' with | nil => rfl | cons _ _ => cases h
        | cons a l ih =>
          intro l' h
          cases l' with
          | nil => cases h
          | cons a' l' =>
            have h : (keyP a.1, a.2) :: mapK keyP l = (keyP a'.1, a'.2) :: mapK keyP l' := h
            injection h with h1 h2
            rw [ih h2]
            injection h1 with h3 h4
            rw [show a = a' from Prod.ext (keyP_inj _ _ h3) h4]
      exact (inj z).symm
    subst ek
    refine ⟨c, _, hi, upd_same, e3.put hs8 v, fun p => ?_⟩
    rw [valV_put]
    unfold setG
    by_cases q : p = s
    · subst q
      rw [if_pos rfl, if_pos ⟨rfl, rfl⟩]
      exact .inr ⟨v, y, rfl, rfl, thP.keep kt rv⟩
    · rw [if_neg q, if_neg fun z => q z.2]
      exact (e4 p).keep kt
  · have ncc : c' ≠ c := fun z => by
      subst z
      exact q (nd_ix b.bnd e1 hi)
    refine ⟨c', kv', e1, by rw [upd_ne ncc]; exact e2, e3, fun p => ?_⟩
    unfold setG
    rw [if_neg fun z => q z.1]
    exact (e4 p).keep kt
/-- one more is found -/
theorem BI.more (b : BI T f B H H2 ml fd wl bs F W g ex) {kf : List ((Nat × Nat) × V)} {ws : List V} {v x : V} {y : Nat × Nat} (hf : H2 fd = some (thP.dic kf)) (hw : H2 wl = some (.lst ws)) (rv : repP H2 v y) (hn : y ∉ F) (r : RP T.length (mvB T B) (f, 0) (DomB T.length T f B) (F ++ [y]) (W ++ [y]) g ex') :
    BI T f B H (upd (upd H2 fd (thP.dic (putK kf y x))) wl (.lst (ws ++ [v]))) ml fd wl bs (F ++ [y]) (W ++ [y]) g ex' := by
  have k1 := thP.tk hf (o := thP.dic (putK kf y x))
  have nwf : wl ≠ fd := ne_of hw hf fun z => thP.nlst _ _ z.symm
  have hw' : upd H2 fd (thP.dic (putK kf y x)) wl = some (.lst ws) := by rw [upd_ne nwf]; exact hw
  have k := k1.trans (TK.lst hw' (o := .lst (ws ++ [v])))
  have nmf : ml ≠ fd := ne_of b.ml2 hf fun z => thP.nlst _ _ z.symm
  obtain ⟨kf', hf1, hf2⟩ := b.fd2
  obtain ⟨ws', hw1, hw2⟩ := b.wl2
  rw [hw] at hw1
  cases hw1
  refine ⟨(b.same.mut b.fd0).mut b.wl0, b.ml0, b.fd0, b.wl0, b.mw, b.bnd, b.bl, b.b0, b.fb, by rw [upd_ne b.mw, upd_ne nmf]; exact b.ml2, fun d hd => ?_, ⟨putK kf y x, by rw [upd_ne nwf.symm, upd_same], ?_⟩, ⟨ws ++ [v], upd_same, psnoc (pmap hw2 fun _ _ z => thP.keep k z) (thP.keep k rv)⟩, r⟩
  · obtain ⟨c, kv, e1, e2, e3, e4⟩ := b.mb d hd
    have n1 : c ≠ fd := fun z => b.fb (z ▸ List.mem_of_getElem? e1)
    have n2 : c ≠ wl := ne_of e2 hw fun z => thP.nlst _ _ z
    exact ⟨c, kv, e1, by rw [upd_ne n2, upd_ne n1]; exact e2, e3, fun p => (e4 p).keep k⟩
  · rw [hf] at hf1
    have ek : kf.map (·.1) = F := by
      rw [← hf2]
      have z : HO.dT (mapK keyP kf) = HO.dT (mapK keyP kf') := Option.some.inj hf1
      injection z with z
      have : ∀ {l l' : List ((Nat × Nat) × V)}, mapK keyP l = mapK keyP l' → l.map (·.1) = l'.map (·.1) := by
        intro l
        induction l with
        | nil => intro l' h; cases l' with | nil => rfl | cons _ _ => cases h
        | cons a l ih =>
          intro l' h
          cases l' with
          | nil => cases h
          | cons a' l' =>
            have h : (keyP a.1, a.2) :: mapK keyP l = (keyP a'.1, a'.2) :: mapK keyP l' := h
            injection h with h1 h2
            injection h1 with h3 h4
            rw [List.map_cons, List.map_cons, ih h2, keyP_inj _ _ h3]
      exact this z
    rw [putK_keysN _ _ _ (valV_out (by rw [ek]; exact hn)), ek]
end
end OWP

/-! ## W17 -/
/-! W17: begun moves: the walk. -/
namespace OWP
open PySem PySem.Spec PyProof.Rows L2 OWR OW
theorem valV_in {κ : Type} [DecidableEq κ] {kvs : List (κ × V)} {t : κ} (h : t ∈ kvs.map (·.1)) : ∃ v, valV kvs t = some v := by
  induction kvs with
  | nil => cases h
  | cons a l ih =>
    by_cases q : a.1 = t
    · exact ⟨_, valV_pos q⟩
    · rw [valV_neg q]
      rw [List.map_cons] at h
      obtain z | z := List.mem_cons.mp h
      · exact absurd z.symm q
      · exact ih z
theorem RP.mid {D : Nat} {mv g : Nat → Nat × Nat → Option (Nat × Nat)} {x0 s : Nat × Nat} {dom : Nat × Nat → Prop} {F W : List (Nat × Nat)} {i : Nat} (r : RP D mv x0 dom F W g (fun x d => x = s ∧ i ≤ d)) {y : Nat × Nat} (h : mv i s = some y) : RP D mv x0 dom F W (setG g i s y) (fun x d => x = s ∧ i ≤ d) where
  nd := r.nd
  sub := r.sub
  first := r.first
  rch := r.rch
  wl := r.wl
  gm := fun d x => by
    unfold setG
    by_cases q : d = i ∧ x = s
    · rw [if_pos q, q.1, q.2, h]; exact .inr rfl
    · rw [if_neg q]; exact r.gm d x
  cl := fun x hx hn d hd he => by
    unfold setG
    rw [if_neg fun z => he ⟨z.2, by rw [z.1]; exact Nat.le_refl _⟩]
    exact r.cl x hx hn d hd he
/-- moves of things, as far as is known -/
structure MBs (H : Hp) (ml : Addr) (T : List (List Nat)) (f : Nat) (B : Bgn) : Prop where
  ex : ∃ bs : List Addr, H ml = some (.lst (bs.map V.ref)) ∧ bs.length = T.length ∧ ∀ d, d < T.length → ∃ b kvs, bs[d]? = some b ∧ H b = some (thP.dic kvs) ∧ ∀ p, DomB T.length T f B p → OptR H (valV kvs p) (mvB T B d p)
theorem MBs.keep {H H' : Hp} {ml : Addr} {T : List (List Nat)} {f : Nat} {B : Bgn} (m : MBs H ml T f B) (s : Same H H') : MBs H' ml T f B := by
  obtain ⟨bs, h1, h2, h3⟩ := m.ex
  exact ⟨⟨bs, s _ _ h1, h2, fun d hd => let ⟨b, kvs, e1, e2, e3⟩ := h3 d hd; ⟨b, kvs, e1, s _ _ e2, fun p hp => (e3 p hp).keep (.of s)⟩⟩⟩
section
variable {P : Program} {w : World} {K : PySem.W.Frag} {mg : Str → Option Value} {base : Heap} {CM CC CP : Addr}
def spBegun (CM : Addr) : Sp := fun vs H Q _ => ∃ (m : Addr) (bt : V) (T : List (List Nat)) (n f size many : Nat) (B : Bgn), vs = [.ref m, vN f, bt] ∧ MacAt CM H m T n ∧ Tabs T n ∧ f < n ∧ BTat H bt B ∧ Bg T.length size many B ∧ size ≤ 8 ∧
  ∀ q H' ml tl ks F, Same H H' → H' q = some (.tup [.ref ml, .ref tl]) → MBs H' ml T f B → H' tl = some (.lst ks) → Paired (repP H') ks F → F.Nodup → (∀ p, p ∈ F ↔ DomB T.length T f B p) → F.length ≤ 64 → Q (.ref q) H'
theorem scBegun : FnScope ["machine", "first", "tables", "moves", "found", "waiting", "state", "standing", "move", "table", "other", "after", "_"] ["machine", "first", "tables"] (defScope (topS 44)) := ⟨rfl, rfl, rfl, by decide +kernel, rfl, by decide +kernel, by decide +kernel⟩
theorem ok_begun {f : Addr} {fd : FuncData} (F : Fun K "begun_moves" "begun_moves" (topS 44) f fd) (Z : Gls mg) (TM : MacC K CM) : FnOk P w K mg base CX0 1 f fd ["machine", "first", "tables"] (spBegun CM) := by
  refine F.ok scBegun (fun vs H Q E h => ?_) (fun cdv A outer s0 H vs Q E hr h => ?_)
  · obtain ⟨m, bt, T, n, f, size, many, B, rfl, _⟩ := h; rfl
  · obtain ⟨m, bt, T, n, f, size, many, B, rfl, hM, tb, hf, hB, bg, hs8, k⟩ := h
    have hu := hu_of hr
    have hu0 := hr.units0
    obtain ⟨dx, tt, us, hm, htt, hT⟩ := id hM
    have hlen : us.length = T.length := plen hT
    obtain ⟨ba, bvs, rfl, hba, hrows⟩ := id hB
    refine ⟨_, pss_cons (ps_setLc (i := 3) (own := [("_", 12)]) (g := gName 12) (tt := tYes) (te := tDNewA (thP.dic [])) rfl scBegun.nd rfl rfl (by rfl) (pi_tup (pe_fld (pv 0) rfl)) (blkOk_by (N := ["machine", "first", "tables", "moves", "found", "waiting", "state", "standing", "move", "table", "other", "after", "_"]) (sc := defScope (topS 44)) (by decide +kernel))
          (fun _ _ _ _ _ => pg_name (i := 12) scBegun.nd rfl (Or.inl rfl)) (fun _ _ _ _ _ => pts_nil) (fun _ _ _ _ _ => pe_dnewA thP.e0))
      (pss_cons (ps_set (i := 4) scBegun.nd rfl (Or.inl rfl) (pe_disp1A (thP.dic []) thP.e0 hu0 (pe_tup (pa_cons (pv 1) (pa_cons pe_int pa_nil))) pe_bl))
      (pss_cons (ps_set (i := 5) scBegun.nd rfl (Or.inl rfl) (pe_lst (pa_cons (pe_tup (pa_cons (pv 1) (pa_cons pe_int pa_nil))) pa_nil)))
      (pss_cons (ps_while PassesOwn.never (pt_cmpR op_gt (pe_callB call_len_seq (by rfl) Z.len (by decide +kernel) (pa_cons (pv 5) pa_nil)) pe_int (nomark _))
        (pss_cons (ps_asg (pe_bm0 PySem.F.plainAttrs_list PySem.F.slot_list_pop PySem.F.type_list_pop mt_pop (pv 5)) (pg_tup rfl (pgs_cons (pg_name (i := 6) scBegun.nd rfl (.inl rfl)) (pgs_cons (pg_name (i := 7) scBegun.nd rfl (.inl rfl)) pgs_nil))))
        (pss_one (ps_for PassesOwn.never rfl (pi_z3 .l .t .t (by rfl) Z.zip (pa_cons (pv 3) (pa_cons (pe_fld (pv 0) rfl) (pa_cons (pv 2) pa_nil)))) (pg_tup rfl (pgs_cons (pg_name (i := 8) scBegun.nd rfl (.inl rfl)) (pgs_cons (pg_name (i := 9) scBegun.nd rfl (.inl rfl)) (pgs_cons (pg_name (i := 10) scBegun.nd rfl (.inl rfl)) pgs_nil))))
          (pss_one (ps_if (pt_cmpR op_notN (pe_ix ix_tup (pv 10) (pv 7) (fun _ _ => rfl)) pe_non (nomark _))
            (pss_cons (ps_set (i := 11) scBegun.nd rfl (Or.inl rfl) (pe_tup (pa_cons (pe_ix ix_tup (pv 9) (pv 6) (fun _ _ => rfl)) (pa_cons (pe_ix ix_tup (pv 10) (pv 7) (fun _ _ => rfl)) pa_nil))))
            (pss_cons (ps_dput hu (pv 8) (pe_tup (pa_cons (pv 6) (pa_cons (pv 7) pa_nil))) (pv 11) rfl)
            (pss_one (ps_if (pt_cmp (pc_dnotin hu (pv 11) (pv 4)))
              (pss_cons (ps_dput hu (pv 4) (pv 11) pe_bl rfl)
              (pss_one (ps_expr (pe_bm PySem.F.plainAttrs_list PySem.F.slot_list_append PySem.F.type_list_append mt_append (pv 5) (pa_cons (pv 11) pa_nil)))))
              pss_nil))))
            pss_nil))))))
      (pss_one (ps_ret (pe_tup (pa_cons (pv 3) (pa_cons (pe_callTy (thP.lst rfl) (by rfl) Z.list (by decide +kernel) (pa_cons (pv 4) pa_nil)) pa_nil)))))))), ?_⟩
    refine ⟨_, rfl, m, CM, dx, _, _, rfl, hm, TM.cl, TM.tb, lk1 (by decide +kernel) (lk1 (by decide +kernel) lk0), tt, rfl, ⟨us, .inl (.inl htt)⟩, fun ml hml => ?_⟩
    refine lc_tup (K := K) (a := tt) (xs := us) (fun i H2 => Same H H2 ∧ ∃ bs : List Addr, H2 ml = some (.lst (bs.map V.ref)) ∧ bs.length = i ∧ bs.Nodup ∧ ∀ b, b ∈ bs → H b = none ∧ H2 b = some (thP.dic [])) ⟨Same.upd hml, [], upd_same, rfl, List.nodup_nil, fun _ h => nomatch h⟩ (fun i H2 _ q => .inl (.inl (q.1 _ _ htt))) ?_ ?_
    · rintro i x H2 hx ⟨s2, bs, e1, e2, e3, e4⟩
      have hi : i < us.length := (List.getElem?_eq_some_iff.mp hx).1
      refine ⟨rfl, yes fun b hb => ?_⟩
      have nmb : ml ≠ b := ne_of_none e1 hb
      refine ⟨_, at_new e1 hb, ?_, (s2.new hb).mut hml, bs ++ [b], ?_, ?_, ?_, fun c hc => ?_⟩
      · have := tb.len4; rw [List.length_map]; exact small1000 (by omega)
      · rw [upd_same, List.map_append]; rfl
      · rw [List.length_append, e2]; rfl
      · refine List.nodup_append.mpr ⟨e3, by simp, fun a ha c hc => ?_⟩
        simp at hc; subst hc
        exact ne_of_none (e4 a ha).2 hb
      · obtain z | z := List.mem_append.mp hc
        · obtain ⟨z1, z2⟩ := e4 c z
          have n1 : c ≠ ml := ne_of z2 e1 fun z => thP.nlst _ _ z
          exact ⟨z1, by rw [upd_ne n1]; exact at_new z2 hb⟩
        · rw [List.eq_of_mem_singleton z]
          exact ⟨s2.free hb, by rw [upd_ne nmb.symm, upd_same]⟩
    · rintro H2 ⟨s2, bs, e1, e2, e3, e4⟩
      rw [hlen] at e2
      intro fo hfo
      refine ⟨_, rfl, (by show 2 ≤ sizeLine; decide), fun kt hkt => ?_⟩
      have nfk : fo ≠ kt := fun z => by rw [← z, upd_same] at hkt; cases hkt
      have hfo3 : upd (upd H2 fo (thP.dic [])) kt (.tup [vN f, vN 0]) fo = some (thP.dic []) := by rw [upd_ne nfk, upd_same]
      refine ⟨_, thP.put (v := .ref kt) (t := (f, 0)) hfo3 ⟨kt, rfl, upd_same⟩ (by show 0 < sizeLine; decide), ?_⟩
      refine ⟨_, rfl, (by show 2 ≤ sizeLine; decide), fun wt hwt => ⟨(by show 1 ≤ sizeLine; decide), fun wl hwl => ?_⟩⟩
      generalize hkf : putK ([] : List ((Nat × Nat) × V)) (f, 0) (V.bl true) = kf at hwt hwl ⊢
      have ekf : kf.map (·.1) = [(f, 0)] := by rw [← hkf]; rfl
      have hk2 : H2 kt = none := by rw [upd_ne nfk.symm] at hkt; exact hkt
      have s3 : Same H (upd (upd H2 fo (thP.dic [])) kt (.tup [vN f, vN 0])) := (s2.new hfo).new hkt
      generalize hH3 : upd (upd (upd H2 fo (thP.dic [])) kt (.tup [vN f, vN 0])) fo (thP.dic kf) = H3 at hwt hwl ⊢
      have fo0 : H fo = none := s2.free hfo
      have s3' : Same H H3 := by rw [← hH3]; exact s3.mut fo0
      have old : ∀ {b o}, H2 b = some o → H3 b = some o := fun {b o} e => by
        rw [← hH3, upd_ne (ne_of_none e hfo), upd_ne (ne_of_none e hk2), upd_ne (ne_of_none e hfo)]; exact e
      have fo3 : H3 fo = some (thP.dic kf) := by rw [← hH3, upd_same]
      have nww : wl ≠ wt := fun z => by rw [z, upd_same] at hwl; cases hwl
      have nwl3 : H3 wl = none := by rw [upd_ne nww] at hwl; exact hwl
      have b1 : BI T f B H (upd (upd H3 wt (.tup [vN f, vN 0])) wl (.lst [V.ref wt])) ml fo wl bs [(f, 0)] [(f, 0)] (fun _ _ => none) (fun _ _ => False) := by
        refine ⟨(s3'.new hwt).new hwl, hml, fo0, s3'.free nwl3, ne_of_none (old e1) nwl3, e3, e2, fun b hb => (e4 b hb).1, fun z => ?_, ?_, fun d hd => ?_, ⟨kf, ?_, ekf⟩, ⟨_, upd_same, .cons ⟨wt, rfl, ?_⟩ .nil⟩, ?_⟩
        · have := (e4 fo z).2
          rw [hfo] at this; cases this
        · exact at_new (at_new (old e1) hwt) hwl
        · have hb : bs[d]? = some (bs[d]'(by omega)) := List.getElem?_eq_getElem _
          refine ⟨_, [], hb, at_new (at_new (old (e4 _ (List.mem_of_getElem? hb)).2) hwt) hwl, ⟨List.nodup_nil, fun _ h => nomatch h⟩, fun p => .inl ⟨rfl, rfl⟩⟩
        · exact at_new (at_new fo3 hwt) hwl
        · rw [upd_ne nww.symm, upd_same]
        · exact ⟨by simp, fun _ h => h, by simp, fun x hx => by simp at hx; subst hx; exact DomB.start, Nat.le_refl _, fun _ _ => .inl rfl, fun x hx hn => absurd hx hn⟩
      generalize upd (upd H3 wt (.tup [vN f, vN 0])) wl (.lst [V.ref wt]) = H4 at b1 ⊢
      have bound : ∀ {F : List (Nat × Nat)}, F.Nodup → (∀ x, x ∈ F → DomB T.length T f B x) → F.length ≤ 64 := fun nd h => len64 nd fun p hp => by
        have a1 := rch_lt tb hf (dom_rch (h p hp))
        have a2 := dom_lt bg (h p hp)
        have := tb.n8
        have := bg.le
        omega
      refine ⟨fun mm σ H1 => ∃ (F W : List (Nat × Nat)) (g : Nat → Nat × Nat → Option (Nat × Nat)) (x1 x2 x3 x4 x5 x6 : Option V), mm = 2 * (64 - F.length) + W.length ∧ σ = [some (.ref m), some (vN f), some (.ref ba), some (.ref ml), some (.ref fo), some (.ref wl), x1, x2, x3, x4, x5, x6, none] ∧ BI T f B H H1 ml fo wl bs F W g (fun _ _ => False),
        ⟨_, _, _, _, none, none, none, none, none, none, rfl, rfl, b1⟩, ?_⟩
      rintro mm σ H1 ⟨F, W, g, x1, x2, x3, x4, x5, x6, rfl, rfl, b⟩
      obtain ⟨ws, hw1, hw2⟩ := b.wl2
      have lws : ws.length = W.length := plen hw2
      refine ⟨_, rfl, wl, ws, rfl, .inl (.of hw1), _, _, rfl, rfl, _, rfl, ?_⟩
      refine ite2 (fun hpos => ?_) (fun hz => ?_)
      · have hWl : 0 < ws.length := by have := of_decide_eq_true hpos; omega
        obtain ⟨u, hu1, eu⟩ := last_of hWl
        generalize hws' : ws.dropLast = ws' at eu
        subst eu
        obtain ⟨W', p0, rfl, hw2', ⟨q, rfl, hq⟩⟩ := psplit hw2
        have b' := b.rp.pop
        have hp0 : p0 ∈ F := b.rp.sub p0 (by simp)
        have dp0 := b.rp.rch p0 hp0
        have p1n := rch_lt tb hf (dom_rch dp0)
        have p2m := dom_lt bg dp0
        have p8 : p0.1 < 8 ∧ p0.2 < 8 := by have := tb.n8; have := bg.le; omega
        refine ⟨fun σ2 H2 => ∃ (F2 W2 : List (Nat × Nat)) (g : Nat → Nat × Nat → Option (Nat × Nat)) (x1 x2 x3 x4 x5 x6 : Option V), 2 * (64 - F2.length) + W2.length + 1 ≤ 2 * (64 - F.length) + (W' ++ [p0]).length ∧ σ2 = [some (.ref m), some (vN f), some (.ref ba), some (.ref ml), some (.ref fo), some (.ref wl), x1, x2, x3, x4, x5, x6, none] ∧ BI T f B H H2 ml fo wl bs F2 W2 g (fun _ _ => False),
          fun σ' H' ⟨F2, W2, g2, y1, y2, y3, y4, y5, y6, hm2, e, bb⟩ => ⟨2 * (64 - F2.length) + W2.length, by omega, F2, W2, g2, y1, y2, y3, y4, y5, y6, rfl, e, bb⟩, ?_⟩
        have edl : (ws' ++ [V.ref q]).dropLast = ws' := List.dropLast_concat
        refine ⟨_, rfl, .inl ⟨rfl, _, .of hw1⟩, wl, _, V.ref q, rfl, rfl, hw1, (by simp), ?_⟩
        rw [edl]
        have kW : TK H1 (upd H1 wl (.lst ws')) := TK.lst hw1
        obtain ⟨kf1, hf1, hf2⟩ := b.fd2
        have nfw : fo ≠ wl := ne_of hf1 hw1 fun z => thP.nlst _ _ z
        have b2 : BI T f B H (upd H1 wl (.lst ws')) ml fo wl bs F W' g (fun x d => x = p0 ∧ 0 ≤ d) := ⟨b.same.mut b.wl0, b.ml0, b.fd0, b.wl0, b.mw, b.bnd, b.bl, b.b0, b.fb, by rw [upd_ne b.mw]; exact b.ml2, fun d hd => by
          obtain ⟨c, kv, z1, z2, z3, z4⟩ := b.mb d hd
          exact ⟨c, kv, z1, by rw [upd_ne (ne_of z2 hw1 fun z => thP.nlst _ _ z)]; exact z2, z3, fun p => (z4 p).keep kW⟩, ⟨kf1, by rw [upd_ne nfw]; exact hf1, hf2⟩, ⟨ws', upd_same, pmap hw2' fun _ _ z => thP.keep kW z⟩, b'⟩
        refine ⟨q, _, rfl, .inl (.inl (kW _ _ hq)), rfl, _, _, rfl, _, _, rfl, rfl, ?_⟩
        refine ⟨_, rfl, _, rfl, m, CM, dx, _, _, rfl, b2.same _ _ hm, TM.cl, TM.tb, lk1 (by decide +kernel) (lk1 (by decide +kernel) lk0), _, rfl, ml, tt, ba, bs.map V.ref, us, bvs, rfl, .of b2.ml2, .inl (.inl (b2.same _ _ htt)), .inl (.inl (b2.same _ _ hba)), ?_⟩
        have lb : (bs.map V.ref).length = T.length := by rw [List.length_map]; exact e2
        have lbv : bvs.length = T.length := by rw [plen hrows]; exact bg.len
        refine for_it (walk_z3 (xs := bs.map V.ref) (ys := us) (zs := bvs) (by omega) (by omega)) (fun i σ H2 => ∃ (F2 W2 : List (Nat × Nat)) (g : Nat → Nat × Nat → Option (Nat × Nat)) (x3 x4 x5 x6 : Option V), 2 * (64 - F2.length) + W2.length + 1 ≤ 2 * (64 - F.length) + (W' ++ [p0]).length ∧ σ = [some (.ref m), some (vN f), some (.ref ba), some (.ref ml), some (.ref fo), some (.ref wl), some (vN p0.1), some (vN p0.2), x3, x4, x5, x6, none] ∧ p0 ∈ F2 ∧ BI T f B H H2 ml fo wl bs F2 W2 g (fun x d => x = p0 ∧ i ≤ d))
          ⟨F, W', g, _, _, _, _, by simp; omega, rfl, hp0, b2⟩ (fun i σ H2 _ ⟨_, _, _, _, _, _, _, _, _, _, bb⟩ => ⟨.of bb.ml2, .inl (.inl (bb.same _ _ htt)), .inl (.inl (bb.same _ _ hba))⟩) ?_ ?_
        · rintro i v σ H2 H2' hi ⟨F2, W2, g2, x3, x4, x5, x6, hms, rfl, hpF, bb⟩ ⟨Tp, u1, u2, u3, rfl, hTp, rfl, ex1, ex2, ex3⟩
          rw [lb] at hi
          have ex1 : (bs.map V.ref)[i]? = some u1 := ex1
          have ex2 : us[i]? = some u2 := ex2
          have ex3 : bvs[i]? = some u3 := ex3
          obtain ⟨c, kvs, z1, z2, z3, z4⟩ := bb.mb i hi
          rw [List.getElem?_map, z1] at ex1
          cases ex1
          obtain ⟨l, hl, ⟨tl, rfl, htl⟩⟩ := pget hT ex2
          obtain ⟨row, hrow, ⟨rl, rfl, hrl⟩⟩ := pget hrows ex3
          have hln : l.length = n := (tb.row l (List.mem_of_getElem? hl)).1
          have eact : ∀ x, l.getD x 0 = actT T i x := fun x => by unfold actT; rw [List.getD_eq_getElem?_getD (l := T), hl]; rfl
          have erow : B.getD i [] = row := by rw [List.getD_eq_getElem?_getD, hrow]; rfl
          have hrs : row.length = size := by rw [← erow]; exact bg.row i hi
          have ebv : row.getD p0.2 none = bval B i p0.2 := by unfold bval; rw [erow]
          have b3 := bb.new (o := .tup [V.ref c, V.ref tl, V.ref rl]) hTp
          generalize hH3 : upd H2 Tp (.tup [V.ref c, V.ref tl, V.ref rl]) = H3 at b3 ⊢
          have hTp3 : H3 Tp = some (.tup [V.ref c, V.ref tl, V.ref rl]) := by rw [← hH3, upd_same]
          have hc3 : H3 c = some (thP.dic kvs) := by rw [← hH3]; exact at_new z2 hTp
          have htl3 := b3.same _ _ htl
          have hrl3 := b3.same _ _ hrl
          have aty : atI (row.map oV) ((p0.2 : Nat) : Int) = some (oV (bval B i p0.2)) := by rw [← ebv]; exact at_oV (by have := bg.le; omega)
          have atx : atI (l.map vN) ((p0.1 : Nat) : Int) = some (vN (actT T i p0.1)) := by rw [← eact]; exact at_vN (by omega)
          refine ⟨Tp, _, rfl, .inl (.inl hTp3), rfl, _, _, rfl, _, _, rfl, _, _, rfl, rfl, ?_⟩
          refine ⟨_, rfl, _, rfl, rl, _, _, _, rfl, rfl, .inl (.inl hrl3), aty, rfl, _, rfl, ?_⟩
          cases hbv : bval B i p0.2 with
          | none =>
            refine iteF ?_
            exact ⟨F2, W2, g2, _, _, _, _, hms, rfl, hpF, b3.re (b3.rp.no (by unfold mvB; rw [hbv]; rfl))⟩
          | some y2 =>
            rw [hbv] at aty
            have hmv : mvB T B i p0 = some (actT T i p0.1, y2) := by unfold mvB; rw [hbv]; rfl
            generalize hy : (actT T i p0.1, y2) = y at hmv
            have hdy : DomB T.length T f B y := dp0.step hi hmv
            refine iteT ?_
            refine ⟨_, rfl, _, rfl, tl, _, _, _, rfl, rfl, .inl (.inl htl3), atx, _, rfl, _, rfl, rl, _, _, _, rfl, rfl, .inl (.inl hrl3), aty, (by show 2 ≤ sizeLine; decide), fun ta hta => ?_⟩
            have b4 := b3.new (o := .tup [vN (actT T i p0.1), oV (some y2)]) hta
            have hc4 := at_new (o := .tup [vN (actT T i p0.1), oV (some y2)]) hc3 hta
            have ry4 : repP (upd H3 ta (.tup [vN (actT T i p0.1), oV (some y2)])) (.ref ta) y := ⟨ta, rfl, by rw [upd_same, ← hy]; rfl⟩
            generalize upd H3 ta (.tup [vN (actT T i p0.1), oV (some y2)]) = H4 at b4 hc4 ry4 ⊢
            refine ⟨_, rfl, _, rfl, _, rfl, _, rfl, (by show 2 ≤ sizeLine; decide), fun tk htk => ?_⟩
            have b5 := b4.new (o := .tup [vN p0.1, vN p0.2]) htk
            have hc5 := at_new (o := .tup [vN p0.1, vN p0.2]) hc4 htk
            have ry5 := thP.keep (TK.new (o := .tup [vN p0.1, vN p0.2]) htk) ry4
            have rp5 : repP (upd H4 tk (.tup [vN p0.1, vN p0.2])) (.ref tk) p0 := ⟨tk, rfl, upd_same⟩
            generalize upd H4 tk (.tup [vN p0.1, vN p0.2]) = H5 at b5 hc5 ry5 rp5 ⊢
            have lkv := z3.len
            refine ⟨c, _, rfl, thP.put (v := .ref tk) (t := p0) hc5 rp5 (small1000 (by omega)), ?_⟩
            have ry6 := thP.keep (thP.tk hc5 (o := thP.dic (putK kvs p0 (.ref ta)))) ry5
            have bP := b5.put z1 hc5 p8 ry5 (b5.rp.mid hmv)
            have bO := fun hin => b5.put z1 hc5 p8 ry5 (b5.rp.old hmv hin)
            generalize upd H5 c (thP.dic (putK kvs p0 (.ref ta))) = H6 at bP bO ry6 ⊢
            obtain ⟨kf6, hf6, ek6⟩ := bP.fd2
            obtain ⟨ws6, hw6, pw6⟩ := bP.wl2
            have lws6 : ws6.length = W2.length := plen pw6
            have lF2 := bound bb.rp.nd bb.rp.rch
            have lkf : kf6.length = F2.length := by rw [← ek6, List.length_map]
            refine ⟨_, rfl, _, rfl, fo, _, rfl, thP.get hf6 ry6, _, rfl, ?_⟩
            by_cases hin : y ∈ F2
            · obtain ⟨v, hv⟩ := valV_in (show y ∈ kf6.map (·.1) by rw [ek6]; exact hin)
              rw [hv]
              refine iteF ?_
              exact ⟨F2, W2, _, _, _, _, _, hms, rfl, hpF, bO hin⟩
            · rw [valV_out (by rw [ek6]; exact hin)]
              refine iteT ?_
              have wl2 := bb.rp.wl
              have hw7 : upd H6 fo (thP.dic (putK kf6 y (.bl true))) wl = some (.lst ws6) := by rw [upd_ne (ne_of hw6 hf6 fun z => thP.nlst _ _ z.symm)]; exact hw6
              refine ⟨_, rfl, _, rfl, fo, _, rfl, thP.put hf6 ry6 (small1000 (by omega)), _, rfl, .inl ⟨rfl, _, .of hw7⟩, _, rfl, wl, ws6, _, rfl, rfl, hw7, small1000 (by omega), ?_⟩
              have rA := b5.rp.add hmv hin hdy
              have lA := bound rA.nd rA.rch
              rw [List.length_append] at lA
              refine ⟨F2 ++ [y], W2 ++ [y], _, _, _, _, _, ?_, rfl, List.mem_append_left _ hpF, bP.more hf6 hw6 ry6 hin rA⟩
              simp at lA hms ⊢
              omega
        · rintro σ H2 ⟨F2, W2, g2, x3, x4, x5, x6, hms, rfl, hpF, bb⟩
          rw [lb] at bb
          exact ⟨F2, W2, g2, _, _, _, _, _, _, hms, rfl, bb.re bb.rp.done⟩
      · have hW0 : W = [] := List.eq_nil_of_length_eq_zero (by
          have : ¬ (0 : Int) < (ws.length : Int) := fun z => hz (decide_eq_true z)
          omega)
        subst hW0
        obtain ⟨kf1, hf1, hf2⟩ := b.fd2
        refine ⟨_, rfl, _, rfl, fo, kf1, rfl, hf1, fun tl ks htl hks => ⟨(by show 2 ≤ sizeLine; decide), fun q hq => ?_⟩⟩
        rw [hf2] at hks
        have b5 := (b.new (o := .lst ks) htl).new (o := .tup [V.ref ml, V.ref tl]) hq
        refine k q _ ml tl ks F b5.same upd_same ⟨⟨bs, b5.ml2, b5.bl, fun d hd => ?_⟩⟩ (at_new upd_same hq) (pmap hks fun _ _ z => thP.keep ((TK.new htl).trans (TK.new hq)) z) b.rp.nd (fun p => b.rp.all p) (bound b.rp.nd b.rp.rch)
        obtain ⟨c, kv, z1, z2, z3, z4⟩ := b5.mb d hd
        refine ⟨c, kv, z1, z2, fun p hp => ?_⟩
        rw [← (b.rp.cl p ((b.rp.all p).mpr hp) (by simp) d hd id).1]
        exact z4 p
end
end OWP

/-! ## W18 -/
/-! W18: known ends. -/
namespace OWP
open PySem PySem.Spec PyProof.Rows L2 OWR OW
def OptV (H : Hp) (v : V) (o : Option (Nat × Nat)) : Prop := (o = none ∧ v = .non) ∨ ∃ q, o = some q ∧ repP H v q
theorem OptV.keep {H H' : Hp} {v : V} {o : Option (Nat × Nat)} (h : OptV H v o) (k : TK H H') : OptV H' v o := by
  rcases h with h | ⟨q, a, b⟩
  · exact .inl h
  · exact .inr ⟨q, a, thP.keep k b⟩
theorem OptR.getD {H : Hp} {o : Option V} {m : Option (Nat × Nat)} (h : OptR H o m) : OptV H (o.getD .non) m := by
  rcases h with ⟨rfl, rfl⟩ | ⟨v, q, rfl, rfl, r⟩
  · exact .inl ⟨rfl, rfl⟩
  · exact .inr ⟨q, rfl, r⟩
theorem kEnd_snoc {α : Type} (mv : Nat → α → Option α) (u : List Nat) (d : Nat) (p : α) : kEnd mv (u ++ [d]) p = (kEnd mv u p).bind (mv d) := by
  rw [kEnd_app]
  cases kEnd mv u p with
  | none => rfl
  | some q => show kEnd mv [d] q = mv d q; rw [kEnd_cons]; cases mv d q <;> rfl
theorem dom_kEnd {D : Nat} {T : List (List Nat)} {f : Nat} {B : Bgn} {p q : Nat × Nat} (h : DomB D T f B p) : ∀ {u : List Nat}, Wd D u → kEnd (mvB T B) u p = some q → DomB D T f B q := fun {u} hu e => by
  obtain ⟨w, hw, ew⟩ := h
  exact ⟨w ++ u, hw.app hu, by rw [kEnd_app, ew]; exact e⟩
section
variable {P : Program} {w : World} {K : PySem.W.Frag} {mg : Str → Option Value} {base : Heap} {CM CC CP : Addr}
def spKend : Sp := fun vs H Q _ => ∃ (ml ra : Addr) (v : V) (T : List (List Nat)) (f : Nat) (B : Bgn) (p : Nat × Nat) (row : List Nat), vs = [.ref ml, v, .ref ra] ∧ MBs H ml T f B ∧ repP H v p ∧ DomB T.length T f B p ∧ H ra = some (.tup (row.map vN)) ∧ Wd T.length row ∧ ∀ v', OptV H v' (kEnd (mvB T B) row p) → Q v' H
theorem scKend : FnScope ["moves", "thing", "row", "deed"] ["moves", "thing", "row"] (defScope (topS 45)) := ⟨rfl, rfl, rfl, by decide +kernel, rfl, by decide +kernel, by decide +kernel⟩
theorem ok_kend {f : Addr} {fd : FuncData} (F : Fun K "known_end" "known_end" (topS 45) f fd) (Z : Gls mg) : FnOk P w K mg base CX0 1 f fd ["moves", "thing", "row"] spKend := by
  refine F.ok scKend (fun vs H Q E h => ?_) (fun cdv A outer s0 H vs Q E hr h => ?_)
  · obtain ⟨ml, ra, v, T, f, B, p, row, rfl, _⟩ := h; rfl
  · obtain ⟨ml, ra, v, T, f, B, p, row, rfl, hM, hv, hp, hra, hw, k⟩ := h
    have hu := hu_of hr
    obtain ⟨bs, hml, hbl, hbs⟩ := hM.ex
    refine ⟨_, pss_cons (ps_for PassesOwn.never rfl (pi_tup (pv 2)) (pg_name (i := 3) scKend.nd rfl (Or.inl rfl)) (pss_one (ps_set (i := 1) scKend.nd rfl (Or.inl rfl) (pe_ifExp (pt_cmpR op_notN (pv 1) pe_non (nomark _)) (pe_dget1 hu (pe_ix ix_list (pv 0) (pv 3) (fun _ _ => rfl)) (pv 1) ⟨rfl, rfl, rfl, rfl⟩) pe_non))))
      (pss_one (ps_ret (pv 1))), ?_⟩
    refine ⟨_, rfl, ra, rfl, ⟨_, .inl (.inl hra)⟩, ?_⟩
    refine for_tup (K := K) (a := ra) (xs := row.map vN) (fun i σ H2 => H2 = H ∧ ∃ v' x, σ = [some (.ref ml), some v', some (.ref ra), x] ∧ OptV H v' (kEnd (mvB T B) (row.take i) p)) ⟨rfl, v, _, rfl, .inr ⟨p, rfl, hv⟩⟩ (fun i σ H2 _ ⟨e, _⟩ => by rw [e]; exact .inl (.inl hra)) ?_ ?_
    · rintro i y σ H2 hy ⟨rfl, v', x, rfl, ov⟩
      obtain ⟨d, hd, rfl⟩ := map_vN_get hy
      have hdD : d < T.length := hw d (List.mem_of_getElem? hd)
      have htk : row.take (i + 1) = row.take i ++ [d] := by rw [List.take_add_one, hd]; rfl
      have wdt : Wd T.length (row.take i) := fun e he => hw e (List.mem_of_mem_take he)
      refine ⟨_, rfl, rfl, ⟨_, rfl, ?_⟩⟩
      rcases ov with ⟨e, rfl⟩ | ⟨q, e, rq⟩
      · refine iteF ⟨rfl, _, _, rfl, ?_⟩
        rw [htk, kEnd_snoc, e]; exact .inl ⟨rfl, rfl⟩
      · obtain ⟨b, kvs, e1, e2, e3⟩ := hbs d hdD
        have dq := dom_kEnd hp wdt e
        have hne : v' ≠ .non := by obtain ⟨z, rfl, _⟩ := id rq; exact fun z => nomatch z
        rw [decide_eq_false hne]
        refine iteT ⟨_, rfl, _, rfl, ml, _, _, _, rfl, rfl, .of hml, at_V (i := d) (by rw [List.getElem?_map, e1]; rfl), b, rfl, thP.isD e2, _, rfl, _, thP.get e2 rq, rfl, _, _, rfl, ?_⟩
        rw [htk, kEnd_snoc, e]
        exact (e3 q dq).getD
    · rintro σ H2 ⟨rfl, v', x, rfl, ov⟩
      rw [List.length_map, List.take_length] at ov
      exact ⟨_, rfl, k v' ov⟩
end
end OWP

/-! ## W19 -/
/-! W19: known unions. -/
namespace OWP
open PySem PySem.Spec PyProof.Rows L2 OWR OW
def RowP (H : Hp) (v : V) (r : List Nat × List Nat) : Prop := ∃ q a b, v = .ref q ∧ H q = some (.tup [.ref a, .ref b]) ∧ H a = some (.tup (r.1.map vN)) ∧ H b = some (.tup (r.2.map vN))
theorem RowP.keep {H H' : Hp} {v : V} {r : List Nat × List Nat} (h : RowP H v r) (k : TK H H') : RowP H' v r := let ⟨q, a, b, e, x, y, z⟩ := h; ⟨q, a, b, e, k _ _ x, k _ _ y, k _ _ z⟩
def rowA (p : Nat × Nat) : List Nat × List Nat := ([p.1, p.2], [p.2, p.1])
def rowR (R : List Nat) (d : Nat) : List Nat × List Nat := ([], List.replicate (rd R d) d)
def rowsR (R : List Nat) (k : Nat) : List (List Nat × List Nat) := ((List.range k).filter fun d => decide (0 < rd R d)).map (rowR R)
def rowsOf (D : Nat) (R : List Nat) : List (List Nat × List Nat) := (apairs D).map rowA ++ rowsR R D
theorem rowsR_succ (R : List Nat) (k : Nat) : rowsR R (k + 1) = rowsR R k ++ if 0 < rd R k then [rowR R k] else [] := by
  unfold rowsR
  rw [List.range_succ, List.filter_append, List.map_append]
  by_cases h : 0 < rd R k
  · rw [if_pos h, List.filter_cons, if_pos (decide_eq_true h)]; rfl
  · rw [if_neg h, List.filter_cons, if_neg (by rw [decide_eq_false h]; decide)]; rfl
theorem rowsR_len (R : List Nat) (k : Nat) : (rowsR R k).length ≤ k := by
  unfold rowsR
  rw [List.length_map]
  have := List.length_filter_le (fun d => decide (0 < rd R d)) (List.range k)
  rw [List.length_range] at this
  exact this
theorem rowsOf_len {D : Nat} (R : List Nat) (h : D ≤ 4) : (rowsOf D R).length ≤ 10 := by
  unfold rowsOf
  rw [List.length_append, List.length_map]
  have := len_apairs h
  have := rowsR_len R D
  omega
theorem rows_wd {D : Nat} {R : List Nat} {r : List Nat × List Nat} (h : r ∈ rowsOf D R) : Wd D r.1 ∧ Wd D r.2 := by
  unfold rowsOf at h
  obtain h | h := List.mem_append.mp h
  · obtain ⟨⟨a, b⟩, hp, rfl⟩ := List.mem_map.mp h
    obtain ⟨h1, h2⟩ := mem_apairs.mp hp
    have h0 : a < D := Nat.lt_trans h1 h2
    exact ⟨Wd.cons h0 (Wd.cons h2 Wd.nil), Wd.cons h2 (Wd.cons h0 Wd.nil)⟩
  · unfold rowsR at h
    obtain ⟨d, hd, rfl⟩ := List.mem_map.mp h
    have := List.mem_range.mp (List.mem_filter.mp hd).1
    exact ⟨Wd.nil, Wd.rep this⟩
/-- a pair of things or of nothing -/
def FinP (H : Hp) (v : V) (p : Option (Nat × Nat) × Option (Nat × Nat)) : Prop := ∃ q v1 v2, v = .ref q ∧ H q = some (.tup [v1, v2]) ∧ OptV H v1 p.1 ∧ OptV H v2 p.2
theorem FinP.keep {H H' : Hp} {v : V} {p : Option (Nat × Nat) × Option (Nat × Nat)} (h : FinP H v p) (k : TK H H') : FinP H' v p := let ⟨q, v1, v2, e, x, y, z⟩ := h; ⟨q, v1, v2, e, k _ _ x, y.keep k, z.keep k⟩
/-- a pair of things -/
def PP (H : Hp) (v : V) (p : (Nat × Nat) × (Nat × Nat)) : Prop := ∃ q v1 v2, v = .ref q ∧ H q = some (.tup [v1, v2]) ∧ repP H v1 p.1 ∧ repP H v2 p.2
theorem PP.keep {H H' : Hp} {v : V} {p : (Nat × Nat) × (Nat × Nat)} (h : PP H v p) (k : TK H H') : PP H' v p := let ⟨q, v1, v2, e, x, y, z⟩ := h; ⟨q, v1, v2, e, k _ _ x, thP.keep k y, thP.keep k z⟩
def fins (T : List (List Nat)) (B : Bgn) (rows : List (List Nat × List Nat)) (p : Nat × Nat) : List (Option (Nat × Nat) × Option (Nat × Nat)) := rows.map fun r => (kEnd (mvB T B) r.1 p, kEnd (mvB T B) r.2 p)
def both (p : Option (Nat × Nat) × Option (Nat × Nat)) : Option ((Nat × Nat) × (Nat × Nat)) := match p with
  | (some x, some y) => some (x, y)
  | _ => none
theorem un_iff {T : List (List Nat)} {f : Nat} {B : Bgn} {R : List Nat} {F : List (Nat × Nat)} (hF : ∀ p, p ∈ F ↔ DomB T.length T f B p) (x y : Nat × Nat) :
    (x, y) ∈ (F.flatMap (fins T B (rowsOf T.length R))).filterMap both ↔ UnB T.length (rd R) (mvB T B) (DomB T.length T f B) x y := by
  have key : (x, y) ∈ (F.flatMap (fins T B (rowsOf T.length R))).filterMap both ↔ ∃ p r, p ∈ F ∧ r ∈ rowsOf T.length R ∧ kEnd (mvB T B) r.1 p = some x ∧ kEnd (mvB T B) r.2 p = some y := by
    rw [List.mem_filterMap]
    constructor
    · rintro ⟨a, ha, e⟩
      obtain ⟨p, hp, hp2⟩ := List.mem_flatMap.mp ha
      obtain ⟨r, hr, rfl⟩ := List.mem_map.mp hp2
      refine ⟨p, r, hp, hr, ?_⟩
      unfold both at e
      split at e
      · rename_i a b e1
        cases e
        injection e1 with e1 e2
        exact ⟨e1, e2⟩
      · cases e
    · rintro ⟨p, r, hp, hr, e1, e2⟩
      exact ⟨_, List.mem_flatMap.mpr ⟨p, hp, List.mem_map.mpr ⟨r, hr, rfl⟩⟩, by rw [e1, e2]; rfl⟩
  rw [key]
  constructor
  · rintro ⟨p, r, hp, hr, e1, e2⟩
    have dp := (hF p).mp hp
    unfold rowsOf at hr
    obtain h | h := List.mem_append.mp hr
    · obtain ⟨⟨a, b⟩, hab, rfl⟩ := List.mem_map.mp h
      obtain ⟨h1, h2⟩ := mem_apairs.mp hab
      exact .inl ⟨p, a, b, dp, h1, h2, e1, e2⟩
    · unfold rowsR at h
      obtain ⟨d, hd, rfl⟩ := List.mem_map.mp h
      obtain ⟨hd1, hd2⟩ := List.mem_filter.mp hd
      refine .inr ⟨p, d, dp, List.mem_range.mp hd1, of_decide_eq_true hd2, ?_, e2⟩
      have : some p = some x := e1
      exact Eq.symm (Option.some.inj this)
  · rintro (⟨p, a, b, dp, h1, h2, e1, e2⟩ | ⟨p, d, dp, hd, hr, rfl, e⟩)
    · exact ⟨p, rowA (a, b), (hF p).mpr dp, List.mem_append_left _ (List.mem_map.mpr ⟨(a, b), mem_apairs.mpr ⟨h1, h2⟩, rfl⟩), e1, e2⟩
    · exact ⟨x, rowR R d, (hF x).mpr dp, List.mem_append_right _ (List.mem_map.mpr ⟨d, List.mem_filter.mpr ⟨List.mem_range.mpr hd, decide_eq_true hr⟩, rfl⟩), rfl, e⟩
section
variable {P : Program} {w : World} {K : PySem.W.Frag} {mg : Str → Option Value} {base : Heap} {CM CC CP : Addr}
def spKun : Sp := fun vs H Q _ => ∃ (ml tl ra : Addr) (T : List (List Nat)) (f : Nat) (B : Bgn) (R : List Nat) (F : List (Nat × Nat)) (ks : List V), vs = [.ref ml, .ref tl, vN T.length, .ref ra] ∧ MBs H ml T f B ∧ T.length ≤ 4 ∧ R.length = T.length ∧ (∀ x, x ∈ R → x ≤ 60) ∧ H tl = some (.lst ks) ∧ Paired (repP H) ks F ∧ (∀ p, p ∈ F → DomB T.length T f B p) ∧ F.length ≤ 64 ∧ H ra = some (.tup (R.map vN)) ∧
  ∀ q H' us, Same H H' → H q = none → H' q = some (.lst us) → Paired (PP H') us ((F.flatMap (fins T B (rowsOf T.length R))).filterMap both) → us.length ≤ 640 → Q (.ref q) H'
theorem scKun : FnScope ["moves", "things", "deeds", "rounds", "rows", "found", "one", "other", "deed", "times", "thing", "pair"] ["moves", "things", "deeds", "rounds"] (defScope (topS 46)) := ⟨rfl, rfl, rfl, by decide +kernel, rfl, by decide +kernel, by decide +kernel⟩
theorem ok_kun {f : Addr} {fd : FuncData} (F : Fun K "known_unions" "known_unions" (topS 46) f fd) (Z : Gls mg) (cp : Cal P w K mg base "all_pairs" 1 ["deeds"] spPairs) (ck : Cal P w K mg base "known_end" 1 ["moves", "thing", "row"] spKend) : FnOk P w K mg base CX0 2 f fd ["moves", "things", "deeds", "rounds"] spKun := by
  refine F.ok scKun (fun vs H Q E h => ?_) (fun cdv A outer s0 H vs Q E hr h => ?_)
  · obtain ⟨ml, tl, ra, T, f, B, R, F, ks, rfl, _⟩ := h; rfl
  · obtain ⟨ml, tl, ra, T, f, B, R, F, ks, rfl, hM, hD4, hR, hR60, htl, hks, hdom, hF64, hra, k⟩ := h
    have hu := hu_of hr
    refine ⟨_, pss_cons (ps_set (i := 4) scKun.nd rfl (Or.inr rfl) (pe_lc (own := [("one", 6), ("other", 7)]) (g := gTup K 2 (gCons (gName 6) (gCons (gName 7) gNil))) (tt := tYes) (te := tTup (tCons (tTup (tCons (tVar 6) (tCons (tVar 7) tNil))) (tCons (tTup (tCons (tVar 7) (tCons (tVar 6) tNil))) tNil))) rfl scKun.nd
          (pi_list (pe_cal cp hr (by rfl) (pa_cons (pv 2) pa_nil))) (blkOk_by (N := ["moves", "things", "deeds", "rounds", "rows", "found", "one", "other", "deed", "times", "thing", "pair"]) (sc := defScope (topS 46)) (by decide +kernel))
          (fun _ _ _ _ _ => pg_tup rfl (pgs_cons (pg_name (i := 6) scKun.nd rfl (.inl rfl)) (pgs_cons (pg_name (i := 7) scKun.nd rfl (.inl rfl)) pgs_nil))) (fun _ _ _ _ _ => pts_nil)
          (fun _ _ _ _ _ => pe_tup (pa_cons (pe_tup (pa_cons (pv 6) (pa_cons (pv 7) pa_nil))) (pa_cons (pe_tup (pa_cons (pv 7) (pa_cons (pv 6) pa_nil))) pa_nil)))))
      (pss_cons (ps_expr (pe_bm PySem.F.plainAttrs_list PySem.F.slot_list_extend PySem.F.type_list_extend mt_extend (pv 4) (pa_cons
          (pe_lc (own := [("deed", 8), ("times", 9)]) (g := gTup K 2 (gCons (gName 8) (gCons (gName 9) gNil))) (tt := tTest (tOp rGt (tVar 9) (tC (.int 0)))) (te := tTup (tCons (tTup tNil) (tCons (tOp rRepA (tTup (tCons (tVar 8) tNil)) (tVar 9)) tNil))) rfl scKun.nd
            (pi_enumT (by rfl) Z.enum (pa_cons (pv 3) pa_nil)) (blkOk_by (N := ["moves", "things", "deeds", "rounds", "rows", "found", "one", "other", "deed", "times", "thing", "pair"]) (sc := defScope (topS 46)) (by decide +kernel))
            (fun _ _ _ _ _ => pg_tup rfl (pgs_cons (pg_name (i := 8) scKun.nd rfl (.inl rfl)) (pgs_cons (pg_name (i := 9) scKun.nd rfl (.inl rfl)) pgs_nil))) (fun _ _ _ _ _ => pts_one (pt_cmpR op_gt1 (pv 9) pe_int (nomark _)))
            (fun _ _ _ _ _ => pe_tup (pa_cons (pe_tup pa_nil) (pa_cons (pe_op op_repA (pe_tup (pa_cons (pv 8) pa_nil)) (pv 9)) pa_nil)))) pa_nil)))
      (pss_cons (ps_setLc2 (i := 5) (own := [("thing", 10), ("one", 6), ("other", 7)]) (vs1 := [6, 7]) (g := gName 10) (g1 := gTup K 2 (gCons (gName 6) (gCons (gName 7) gNil))) (tt := tYes) (tt1 := tYes) (wi1 := iList K (tVar 4)) (te := tTup (tCons (tCall spKend [] E0 (tCons (tVar 0) (tCons (tVar 10) (tCons (tVar 6) tNil)))) (tCons (tCall spKend [] E0 (tCons (tVar 0) (tCons (tVar 10) (tCons (tVar 7) tNil)))) tNil))) rfl scKun.nd rfl rfl (by rfl)
          (pi_list (pv 1)) (blkOk_by (N := ["moves", "things", "deeds", "rounds", "rows", "found", "one", "other", "deed", "times", "thing", "pair"]) (sc := defScope (topS 46)) (by decide +kernel)) (by decide)
          (fun _ _ _ _ _ => pg_name (i := 10) scKun.nd rfl (.inl rfl)) (fun _ _ _ _ _ => pts_nil) (fun _ _ _ _ _ => pi_list (pv 4))
          (fun _ _ _ _ _ => pg_tup rfl (pgs_cons (pg_name (i := 6) scKun.nd rfl (.inl rfl)) (pgs_cons (pg_name (i := 7) scKun.nd rfl (.inl rfl)) pgs_nil))) (fun _ _ _ _ _ => pts_nil)
          (fun _ _ _ _ _ => pe_tup (pa_cons (pe_cal ck hr (by rfl) (pa_cons (pv 0) (pa_cons (pv 10) (pa_cons (pv 6) pa_nil)))) (pa_cons (pe_cal ck hr (by rfl) (pa_cons (pv 0) (pa_cons (pv 10) (pa_cons (pv 7) pa_nil)))) pa_nil))))
      (pss_one (ps_ret (pe_lc (own := [("pair", 11)]) (g := gName 11) (tt := tAnd (tTest (tOp rNotN (tOp (rIxT K) (tVar 11) (tC (.int 0))) (tC .non))) (tTest (tOp rNotN (tOp (rIxT K) (tVar 11) (tC (.int 1))) (tC .non)))) (te := tVar 11) rfl scKun.nd
          (pi_list (pv 5)) (blkOk_by (N := ["moves", "things", "deeds", "rounds", "rows", "found", "one", "other", "deed", "times", "thing", "pair"]) (sc := defScope (topS 46)) (by decide +kernel))
          (fun _ _ _ _ _ => pg_name (i := 11) scKun.nd rfl (.inl rfl)) (fun _ _ _ _ _ => pts_one (PW.pt (pw_and (pt_cmpR op_notN1 (pe_ix (ix_tupK rfl) (pv 11) pe_int (fun _ _ => rfl)) pe_non (nomark _)) (pw_and1 (pt_cmpR op_notN1 (pe_ix (ix_tupK rfl) (pv 11) pe_int (fun _ _ => rfl)) pe_non (nomark _))))))
          (fun _ _ _ _ _ => pv 11)))))), ?_⟩
    refine ⟨_, rfl, T.length, rfl, hD4, fun pq H1 xs s1 hpq hxs => ⟨pq, rfl, ⟨_, .of hpq⟩, fun rl hrl => ?_⟩⟩
    have lxs : xs.length ≤ 6 := by rw [plen hxs]; exact len_apairs hD4
    refine lc_list (K := K) (a := pq) (xs := xs) (fun i H2 => Same H1 H2 ∧ ∃ us, H2 rl = some (.lst us) ∧ Paired (RowP H2) us (((apairs T.length).take i).map rowA)) ⟨Same.upd hrl, [], upd_same, .nil⟩ (fun i H2 _ z => .of (z.1 _ _ hpq)) ?_ ?_
    · rintro i x H2 hx ⟨s2, us, e1, e2⟩
      obtain ⟨⟨one, other⟩, hp, ⟨q, rfl, hq⟩⟩ := pget hxs hx
      have hq2 := s2 _ _ hq
      have hi : i < xs.length := (List.getElem?_eq_some_iff.mp hx).1
      have lus : us.length ≤ 10 := by
        have := plen e2
        rw [List.length_map, List.length_take] at this
        omega
      refine ⟨q, _, rfl, .inl (.inl hq2), rfl, _, _, rfl, _, _, rfl, rfl, rfl, yes ⟨_, rfl, _, rfl, (by show 2 ≤ sizeLine; decide), fun a ha => ⟨_, rfl, _, rfl, (by show 2 ≤ sizeLine; decide), fun b hb => ⟨(by show 2 ≤ sizeLine; decide), fun t ht => ?_⟩⟩⟩⟩
      have e1' := at_new (o := .tup [V.ref a, V.ref b]) (at_new (o := .tup [vN other, vN one]) (at_new (o := .tup [vN one, vN other]) e1 ha) hb) ht
      have k3 := ((TK.new (o := .tup [vN one, vN other]) ha).trans (TK.new (o := .tup [vN other, vN one]) hb)).trans (TK.new (o := .tup [V.ref a, V.ref b]) ht)
      have ra3 := at_new (o := .tup [V.ref a, V.ref b]) (at_new (o := .tup [vN other, vN one]) (upd_same (H := H2) (a := a) (o := .tup [vN one, vN other])) hb) ht
      have rb3 := at_new (o := .tup [V.ref a, V.ref b]) (upd_same (H := upd H2 a (.tup [vN one, vN other])) (a := b) (o := .tup [vN other, vN one])) ht
      have s3 := ((s2.new (o := .tup [vN one, vN other]) ha).new (o := .tup [vN other, vN one]) hb).new (o := .tup [V.ref a, V.ref b]) ht
      have rt3 := upd_same (H := upd (upd H2 a (.tup [vN one, vN other])) b (.tup [vN other, vN one])) (a := t) (o := .tup [V.ref a, V.ref b])
      generalize upd (upd (upd H2 a (.tup [vN one, vN other])) b (.tup [vN other, vN one])) t (.tup [V.ref a, V.ref b]) = H3 at e1' k3 ra3 rb3 s3 rt3 ⊢
      have kL : TK H3 (upd H3 rl (.lst (us ++ [V.ref t]))) := TK.lst e1'
      refine ⟨us, e1', small1000 (by omega), s3.mut hrl, us ++ [V.ref t], upd_same, ?_⟩
      rw [List.take_add_one, hp, List.map_append]
      exact psnoc (pmap e2 fun _ _ z => z.keep (k3.trans kL)) ⟨t, a, b, rfl, kL _ _ rt3, kL _ _ ra3, kL _ _ rb3⟩
    · rintro H2 ⟨s2, us, e1, e2⟩
      rw [plen hxs, List.take_length] at e2
      have sH2 := s1.trans s2
      have rl0 : H rl = none := s1.free hrl
      refine ⟨_, rfl, .inl ⟨rfl, _, .of e1⟩, _, rfl, ra, _, rfl, .inl (.inl (sH2 _ _ hra)), fun l2 hl2 => ?_⟩
      have lus : us.length ≤ 6 := by
        have := plen e2
        rw [List.length_map] at this
        have := len_apairs hD4
        omega
      refine lc_it (walk_enumT (xs := R.map vN)) (fun j H3 => Same H2 H3 ∧ ∃ us2, H3 l2 = some (.lst us2) ∧ Paired (RowP H3) us2 (rowsR R j)) ⟨Same.upd hl2, [], upd_same, .nil⟩ (fun j H3 _ z => .inl (.inl (z.1 _ _ (sH2 _ _ hra)))) ?_ ?_
      · rintro j v H3 H4 hj ⟨s3, us2, f1, f2⟩ ⟨Tp, x1, y1, rfl, hTp, rfl, ex, ey⟩
        cases ex
        have ey : (R.map vN)[j]? = some y1 := ey
        obtain ⟨r, hr1, rfl⟩ := map_vN_get ey
        rw [List.length_map] at hj
        have er : rd R j = r := by unfold rd; rw [List.getD_eq_getElem?_getD, hr1]; rfl
        have hr60 := hR60 r (List.mem_of_getElem? hr1)
        have s4 := s3.new (o := .tup [vN j, vN r]) hTp
        have f1' := at_new (o := .tup [vN j, vN r]) f1 hTp
        have f2' := pmap f2 fun _ _ z => z.keep (TK.new (o := .tup [vN j, vN r]) hTp)
        have hT4 := upd_same (H := H3) (a := Tp) (o := .tup [vN j, vN r])
        generalize upd H3 Tp (.tup [vN j, vN r]) = H4 at s4 f1' f2' hT4 ⊢
        have lu2 : us2.length ≤ 8 := by
          have := plen f2
          have := rowsR_len R j
          omega
        refine ⟨Tp, _, rfl, .inl (.inl hT4), rfl, _, _, rfl, _, _, rfl, rfl, rfl, ?_⟩
        refine ⟨_, rfl, _, _, rfl, rfl, ⟨_, rfl, ?_⟩⟩
        by_cases h0 : 0 < r
        · refine ifT (by omega) ?_
          refine ⟨(by show 0 ≤ sizeLine; decide), fun e he => ⟨_, rfl, (by show 1 ≤ sizeLine; decide), fun o ho => ⟨_, rfl, o, (r : Int), [vN j], rfl, rfl, upd_same, by simp, by omega, by omega, by show 1 ≤ 1000; decide, fun p H5 s5 hp => ⟨(by show 2 ≤ sizeLine; decide), fun t ht => ?_⟩⟩⟩⟩
          have erep : (List.replicate ((r : Int).toNat) [vN j]).flatten = (List.replicate r j).map vN := by
            rw [Int.toNat_natCast, List.map_replicate]
            induction r with
            | zero => rfl
            | succ r ih => simp
          rw [erep] at hp
          have s45 : Same H4 H5 := ((Same.upd (o := .tup []) he).new (o := .tup [vN j]) ho).trans s5
          have he5 := s5 _ _ (at_new (o := .tup [vN j]) (upd_same (H := H4) (a := e) (o := .tup [])) ho)
          have f5 := at_new (o := .tup [V.ref e, V.ref p]) (s45 _ _ f1') ht
          have s6 := (s4.trans s45).new (o := .tup [V.ref e, V.ref p]) ht
          have ht6 := upd_same (H := H5) (a := t) (o := .tup [V.ref e, V.ref p])
          have he6 := at_new (o := .tup [V.ref e, V.ref p]) he5 ht
          have hp6 := at_new (o := .tup [V.ref e, V.ref p]) hp ht
          have k46 := (TK.of s45).trans (TK.new (o := .tup [V.ref e, V.ref p]) ht)
          generalize upd H5 t (.tup [V.ref e, V.ref p]) = H6 at f5 s6 ht6 he6 hp6 k46 ⊢
          have kL : TK H6 (upd H6 l2 (.lst (us2 ++ [V.ref t]))) := TK.lst f5
          refine ⟨us2, f5, small1000 (by omega), s6.mut hl2, us2 ++ [V.ref t], upd_same, ?_⟩
          rw [rowsR_succ, er, if_pos h0]
          refine psnoc (pmap f2' fun _ _ z => z.keep (k46.trans kL)) ⟨t, e, p, rfl, kL _ _ ht6, kL _ _ he6, ?_⟩
          show upd H6 l2 (.lst (us2 ++ [V.ref t])) p = some (HO.tup ((List.replicate (rd R j) j).map vN))
          rw [er]; exact kL _ _ hp6
        · refine ifF (by omega) ?_
          refine ⟨s4, us2, f1', ?_⟩
          rw [rowsR_succ, er, if_neg h0, List.append_nil]
          exact f2'
      · rintro H3 ⟨s3, us2, f1, f2⟩
        rw [List.length_map, hR] at f2
        have e1' := s3 _ _ e1
        have lu2 : us2.length ≤ 4 := by
          have := plen f2
          have := rowsR_len R T.length
          omega
        refine ⟨rl, l2, us, us2, rfl, rfl, e1', f1, Nat.le_of_lt (small1000 (by omega)), ?_⟩
        have kb : TK H3 (upd H3 rl (.lst (us ++ us2))) := TK.lst e1'
        have rows : Paired (RowP (upd H3 rl (.lst (us ++ us2)))) (us ++ us2) (rowsOf T.length R) := papp (pmap e2 fun _ _ z => z.keep ((TK.of s3).trans kb)) (pmap f2 fun _ _ z => z.keep kb)
        have sb : Same H (upd H3 rl (.lst (us ++ us2))) := (sH2.trans s3).mut rl0
        have hrb := upd_same (H := H3) (a := rl) (o := .lst (us ++ us2))
        generalize hrus : us ++ us2 = rus at rows sb hrb ⊢
        generalize upd H3 rl (.lst rus) = Hb at rows sb hrb ⊢
        have htlb := sb _ _ htl
        have hksb := pmap hks fun _ _ z => thP.keep (.of sb) z
        have hMb := hM.keep sb
        refine ⟨_, rfl, tl, rfl, ⟨_, .of htlb⟩, fun fl hfl => ?_⟩
        have lrus : rus.length ≤ 10 := by rw [plen rows]; exact rowsOf_len R hD4
        have lks : ks.length = F.length := plen hks
        have lfins : ∀ l : List (Nat × Nat), (l.flatMap (fins T B (rowsOf T.length R))).length ≤ l.length * 10 := fun l => by
          induction l with
          | nil => simp
          | cons a l ih =>
            rw [List.flatMap_cons, List.length_append, List.length_cons]
            have : (fins T B (rowsOf T.length R) a).length ≤ 10 := by unfold fins; rw [List.length_map]; exact rowsOf_len R hD4
            omega
        refine lc2_out (walk_list (xs := ks)) (fun i H4 => Same Hb H4 ∧ ∃ fs, H4 fl = some (.lst fs) ∧ Paired (FinP H4) fs ((F.take i).flatMap (fins T B (rowsOf T.length R)))) ⟨Same.upd hfl, [], upd_same, by simp; exact .nil⟩ (fun i H4 _ z => .of (z.1 _ _ htlb)) ?_ ?_
        · rintro i x Hx H4 hi ⟨s4, fs, g1, g2⟩ ⟨rfl, hx⟩
          obtain ⟨p, hp, rp⟩ := pget hksb hx
          have hdp := hdom p (List.mem_of_getElem? hp)
          refine ⟨rfl, yes ?_⟩
          refine ⟨_, rfl, rl, rfl, ⟨_, .of (s4 _ _ hrb)⟩, ?_⟩
          refine lc2_in (walk_list (xs := rus)) (fun j H5 => Same Hb H5 ∧ ∃ fs, H5 fl = some (.lst fs) ∧ Paired (FinP H5) fs ((F.take i).flatMap (fins T B (rowsOf T.length R)) ++ (fins T B (rowsOf T.length R) p).take j)) ⟨s4, fs, g1, by simpa using g2⟩ (fun j H5 _ z => .of (z.1 _ _ hrb)) ?_ ?_
          · rintro j y Hy H5 hj ⟨s5, fs5, g5, q5⟩ ⟨rfl, hy⟩
            obtain ⟨r, hr1, ⟨q, a, b, rfl, hq, ha, hb⟩⟩ := pget rows hy
            obtain ⟨w1, w2⟩ := rows_wd (List.mem_of_getElem? hr1)
            have lfs : fs5.length ≤ 650 := by
              have h1 := plen q5
              rw [List.length_append, List.length_take] at h1
              have h2 := lfins (F.take i)
              have h3 := List.length_take_le' i F
              omega
            refine ⟨q, _, rfl, .inl (.inl (s5 _ _ hq)), rfl, _, _, rfl, _, _, rfl, rfl, rfl, yes ?_⟩
            refine ⟨_, rfl, _, rfl, _, rfl, ml, a, x, T, f, B, p, r.1, rfl, hMb.keep s5, thP.keep (.of s5) rp, hdp, s5 _ _ ha, w1, fun v1 o1 => ?_⟩
            refine ⟨_, rfl, _, rfl, _, rfl, ml, b, x, T, f, B, p, r.2, rfl, hMb.keep s5, thP.keep (.of s5) rp, hdp, s5 _ _ hb, w2, fun v2 o2 => ?_⟩
            refine ⟨(by show 2 ≤ sizeLine; decide), fun t ht => ?_⟩
            have g5' := at_new (o := .tup [v1, v2]) g5 ht
            have kt := (TK.new (o := .tup [v1, v2]) ht).trans (TK.lst g5' (o := .lst (fs5 ++ [V.ref t])))
            refine ⟨fs5, g5', small1000 (by omega), (s5.new ht).mut hfl, fs5 ++ [V.ref t], upd_same, ?_⟩
            have hfin : (fins T B (rowsOf T.length R) p)[j]? = some (kEnd (mvB T B) r.1 p, kEnd (mvB T B) r.2 p) := by unfold fins; rw [List.getElem?_map, hr1]; rfl
            rw [List.take_add_one, hfin, ← List.append_assoc]
            refine psnoc (pmap q5 fun _ _ z => z.keep kt) ⟨t, v1, v2, rfl, TK.lst g5' _ _ upd_same, o1.keep kt, o2.keep kt⟩
          · rintro H5 ⟨s5, fs5, g5, q5⟩
            refine ⟨s5, fs5, g5, ?_⟩
            have lf : (fins T B (rowsOf T.length R) p).length = rus.length := by unfold fins; rw [List.length_map, plen rows]
            rw [← lf, List.take_length] at q5
            rw [List.take_add_one, hp, List.flatMap_append]
            simpa using q5
        · rintro H4 ⟨s4, fs, g1, g2⟩
          rw [lks, List.take_length] at g2
          have lfs : fs.length ≤ 640 := by
            have := lfins F
            have := plen g2
            omega
          refine ⟨_, rfl, fl, rfl, ⟨_, .of g1⟩, fun L hL => ?_⟩
          refine lc_list (K := K) (a := fl) (xs := fs) (fun i H5 => Same H4 H5 ∧ ∃ us, H5 L = some (.lst us) ∧ Paired (PP H5) us (((F.flatMap (fins T B (rowsOf T.length R))).take i).filterMap both) ∧ us.length ≤ i) ⟨Same.upd hL, [], upd_same, .nil, Nat.le_refl _⟩ (fun i H5 _ z => .of (z.1 _ _ g1)) ?_ ?_
          · rintro i x H5 hx ⟨s5, us5, h1, h2, h3⟩
            obtain ⟨⟨o1, o2⟩, hp, ⟨q, v1, v2, rfl, hq, r1, r2⟩⟩ := pget g2 hx
            have hi : i < fs.length := (List.getElem?_eq_some_iff.mp hx).1
            have hq5 := s5 _ _ hq
            have r1 := r1.keep (.of s5)
            have r2 := r2.keep (.of s5)
            have etk : ((F.flatMap (fins T B (rowsOf T.length R))).take (i + 1)).filterMap both = ((F.flatMap (fins T B (rowsOf T.length R))).take i).filterMap both ++ (both (o1, o2)).toList := by
              have e3 : List.filterMap both (some (o1, o2)).toList = (both (o1, o2)).toList := by
                show List.filterMap both [(o1, o2)] = _
                rw [List.filterMap_cons]
                cases both (o1, o2) <;> rfl
              rw [List.take_add_one, hp, List.filterMap_append, e3]
            rw [etk]
            refine ⟨rfl, _, rfl, q, _, 0, v1, rfl, rfl, .inl (.inl hq5), rfl, rfl, _, rfl, ?_⟩
            rcases r1 with ⟨z1, rfl⟩ | ⟨p1, z1, r1⟩
            · refine iteF (iteF ⟨s5, us5, h1, ?_, by omega⟩)
              have : both (o1, o2) = none := by subst z1; rfl
              rw [this]; simpa using h2
            · have n1 : v1 ≠ .non := by obtain ⟨z, rfl, _⟩ := id r1; exact fun z => nomatch z
              rw [decide_eq_false n1]
              refine iteT ⟨_, rfl, q, _, 1, v2, rfl, rfl, .inl (.inl hq5), rfl, rfl, _, rfl, ?_⟩
              rcases r2 with ⟨z2, rfl⟩ | ⟨p2, z2, r2⟩
              · refine iteF ⟨s5, us5, h1, ?_, by omega⟩
                have : both (o1, o2) = none := by subst z1 z2; rfl
                rw [this]; simpa using h2
              · have n2 : v2 ≠ .non := by obtain ⟨z, rfl, _⟩ := id r2; exact fun z => nomatch z
                rw [decide_eq_false n2]
                refine iteT ⟨_, rfl, us5, h1, small1000 (by omega), s5.mut hL, us5 ++ [V.ref q], upd_same, ?_, by rw [List.length_append]; exact Nat.add_le_add_right h3 1⟩
                have : both (o1, o2) = some (p1, p2) := by subst z1 z2; rfl
                rw [this]
                have kt := TK.lst h1 (o := .lst (us5 ++ [V.ref q]))
                exact psnoc (pmap h2 fun _ _ z => z.keep kt) ⟨q, v1, v2, rfl, kt _ _ hq5, thP.keep kt r1, thP.keep kt r2⟩
          · rintro H5 ⟨s5, us5, h1, h2, h3⟩
            rw [plen g2, List.take_length] at h2
            exact k L H5 us5 (sb.trans (s4.trans s5)) ((sb.trans s4).free hL) h1 h2 (by omega)
end
end OWP

/-! ## W20 -/
/-! W20: can it tell: the law of it. -/
namespace OWP
open PySem PySem.Spec PyProof.Rows L2 OWR OW
/-- joined by lots, and by pairs yet to be joined -/
inductive Cl {τ : Type} (r : τ → τ) (ps : List (τ × τ)) : τ → τ → Prop
  | lot {x y : τ} : r x = r y → Cl r ps x y
  | pend {x y : τ} : (x, y) ∈ ps → Cl r ps x y
  | symm {x y : τ} : Cl r ps x y → Cl r ps y x
  | trans {x y z : τ} : Cl r ps x y → Cl r ps y z → Cl r ps x z
theorem Cl.mono {τ : Type} {r r' : τ → τ} {ps ps' : List (τ × τ)} (h1 : ∀ x y, r x = r y → Cl r' ps' x y) (h2 : ∀ x y, (x, y) ∈ ps → Cl r' ps' x y) {x y : τ} (h : Cl r ps x y) : Cl r' ps' x y := by
  induction h with
  | lot e => exact h1 _ _ e
  | pend e => exact h2 _ _ e
  | symm _ ih => exact ih.symm
  | trans _ _ i1 i2 => exact i1.trans i2
theorem Cl.nil {τ : Type} {r : τ → τ} {x y : τ} (h : Cl r [] x y) : r x = r y := by
  induction h with
  | lot e => exact e
  | pend e => cases e
  | symm _ ih => exact ih.symm
  | trans _ _ i1 i2 => exact i1.trans i2
def FullB (T : List (List Nat)) (f : Nat) (B : Bgn) : Prop := ∀ p, DomB T.length T f B p → ∀ d, d < T.length → bval B d p.2 ≠ none
/-- what the joining keeps -/
structure EC (T : List (List Nat)) (f : Nat) (B : Bgn) (R : Nat → Nat) (F : List (Nat × Nat)) (r : Nat × Nat → Nat × Nat) (ps : List ((Nat × Nat) × (Nat × Nat))) : Prop where
  sp : ∀ x y, (x, y) ∈ ps → x ∈ F ∧ y ∈ F ∧ GenB T.length T f R B x y
  sr : ∀ t, t ∈ F → GenB T.length T f R B t (r t)
  cg : FullB T f B → ∀ x, x ∈ F → ∀ y, y ∈ F → r x = r y → ∀ d, d < T.length → ∀ x' y', mvB T B d x = some x' → mvB T B d y = some y' → Cl r ps x' y'
  un : ∀ x y, UnB T.length R (mvB T B) (DomB T.length T f B) x y → Cl r ps x y
section
variable {T : List (List Nat)} {f : Nat} {B : Bgn} {R : Nat → Nat} {F : List (Nat × Nat)} {r : Nat × Nat → Nat × Nat} {ps : List ((Nat × Nat) × (Nat × Nat))}
theorem full_mv (hf : FullB T f B) {p : Nat × Nat} (hp : DomB T.length T f B p) {d : Nat} (hd : d < T.length) : ∃ q, mvB T B d p = some q := by
  cases h : bval B d p.2 with
  | none => exact absurd h (hf p hp d hd)
  | some b => exact ⟨_, by unfold mvB; rw [h]; rfl⟩
theorem EC.start (hF : ∀ p, p ∈ F ↔ DomB T.length T f B p) (hps : ∀ x y, (x, y) ∈ ps ↔ UnB T.length R (mvB T B) (DomB T.length T f B) x y) : EC T f B R F id ps where
  sp := fun x y h => by
    have u := (hps x y).mp h
    refine ⟨?_, ?_, .base u⟩
    · rcases u with ⟨p, a, b, hp, h1, h2, e1, e2⟩ | ⟨p, d, hp, hd, h0, rfl, e⟩
      · exact (hF x).mpr (dom_kEnd hp (Wd.cons (Nat.lt_trans h1 h2) (Wd.cons h2 Wd.nil)) e1)
      · exact (hF x).mpr hp
    · rcases u with ⟨p, a, b, hp, h1, h2, e1, e2⟩ | ⟨p, d, hp, hd, h0, rfl, e⟩
      · exact (hF y).mpr (dom_kEnd hp (Wd.cons h2 (Wd.cons (Nat.lt_trans h1 h2) Wd.nil)) e2)
      · exact (hF y).mpr (dom_kEnd hp (Wd.rep hd) e)
  sr := fun t ht => .refl ((hF t).mp ht)
  cg := fun _ x hx y hy e d hd x' y' e1 e2 => by
    have e : x = y := e
    subst e
    rw [e1] at e2
    cases e2
    exact .lot rfl
  un := fun x y h => .pend ((hps x y).mpr h)
theorem EC.same {a b : Nat × Nat} (e : EC T f B R F r (ps ++ [(a, b)])) (h : r a = r b) : EC T f B R F r ps := by
  have mono : ∀ {x y}, Cl r (ps ++ [(a, b)]) x y → Cl r ps x y := fun {x y} c => c.mono (fun _ _ z => .lot z) fun x y z => by
    obtain z | z := List.mem_append.mp z
    · exact .pend z
    · have := List.mem_singleton.mp z
      cases this
      exact .lot h
  exact ⟨fun x y z => e.sp x y (List.mem_append_left _ z), e.sr, fun hf x hx y hy q d hd x' y' e1 e2 => mono (e.cg hf x hx y hy q d hd x' y' e1 e2), fun x y u => mono (e.un x y u)⟩
theorem EC.join {h : Nat × Nat → Nat × Nat} (fo : Fo F h r) (hF : ∀ p, p ∈ F ↔ DomB T.length T f B p) {a b : Nat × Nat} (e : EC T f B R F r (ps ++ [(a, b)])) {ps2 : List ((Nat × Nat) × (Nat × Nat))} (sub : ∀ z, z ∈ ps → z ∈ ps2)
    (new : ∀ d, d < T.length → ∀ x y, mvB T B d a = some x → mvB T B d b = some y → (x, y) ∈ ps2) (only : ∀ x y, (x, y) ∈ ps2 → (x, y) ∈ ps ∨ ∃ d, d < T.length ∧ mvB T B d a = some x ∧ mvB T B d b = some y) : EC T f B R F (setR r (r b) (r a)) ps2 := by
  obtain ⟨ha, hb, gab⟩ := e.sp a b (by simp)
  have ra : setR r (r b) (r a) a = r a := by unfold setR; split <;> rfl
  have rb : setR r (r b) (r a) b = r a := by unfold setR; rw [if_pos rfl]
  have keepR : ∀ x y, r x = r y → setR r (r b) (r a) x = setR r (r b) (r a) y := fun x y z => by unfold setR; rw [z]
  have mono : ∀ {x y}, Cl r (ps ++ [(a, b)]) x y → Cl (setR r (r b) (r a)) ps2 x y := fun {x y} c => c.mono (fun x y z => .lot (keepR x y z)) fun x y z => by
    obtain z | z := List.mem_append.mp z
    · exact .pend (sub _ z)
    · have := List.mem_singleton.mp z
      cases this
      exact .lot (by rw [ra, rb])
  have sr : ∀ t, t ∈ F → GenB T.length T f R B t (setR r (r b) (r a) t) := fun t ht => by
    unfold setR
    by_cases z : r t = r b
    · rw [if_pos z]
      have g1 := e.sr t ht
      rw [z] at g1
      exact .trans g1 (.trans (.symm (e.sr b hb)) (.trans (.symm gab) (e.sr a ha)))
    · rw [if_neg z]; exact e.sr t ht
  refine ⟨fun x y z => ?_, sr, fun hf x hx y hy q d hd x' y' e1 e2 => ?_, fun x y u => mono (e.un x y u)⟩
  · rcases only x y z with z | ⟨d, hd, e1, e2⟩
    · exact e.sp x y (List.mem_append_left _ z)
    · exact ⟨(hF x).mpr (((hF a).mp ha).step hd e1), (hF y).mpr (((hF b).mp hb).step hd e2), .move hd gab e1 e2⟩
  · obtain ⟨a', ea⟩ := full_mv hf ((hF a).mp ha) hd
    obtain ⟨b', eb⟩ := full_mv hf ((hF b).mp hb) hd
    have cab : Cl (setR r (r b) (r a)) ps2 a' b' := .pend (new d hd _ _ ea eb)
    by_cases zx : r x = r b
    · by_cases zy : r y = r b
      · exact mono (e.cg hf x hx y hy (by rw [zx, zy]) d hd x' y' e1 e2)
      · unfold setR at q
        rw [if_pos zx, if_neg zy] at q
        exact (mono (e.cg hf x hx b hb zx d hd x' b' e1 eb)).trans (cab.symm.trans (mono (e.cg hf a ha y hy q d hd a' y' ea e2)))
    · by_cases zy : r y = r b
      · unfold setR at q
        rw [if_neg zx, if_pos zy] at q
        exact (mono (e.cg hf x hx a ha q d hd x' a' e1 ea)).trans (cab.trans (mono (e.cg hf b hb y hy zy.symm d hd b' y' eb e2)))
      · unfold setR at q
        rw [if_neg zx, if_neg zy] at q
        exact mono (e.cg hf x hx y hy q d hd x' y' e1 e2)
/-- all joined -/
theorem EC.bad (e : EC T f B R F r []) {x y : Nat × Nat} (hx : x ∈ F) (hy : y ∈ F) (h : r x = r y) (h2 : x.2 = y.2) (hne : x ≠ y) : ¬ NoClash T.length T f R B := fun nc => by
  have g1 := e.sr x hx
  rw [h] at g1
  have := nc x y (.trans g1 (.symm (e.sr y hy))) h2
  exact hne (Prod.ext this h2)
theorem EC.good (hF : ∀ p, p ∈ F ↔ DomB T.length T f B p) (e : EC T f B R F r []) (hf : FullB T f B) (h : ∀ x, x ∈ F → ∀ y, y ∈ F → r x = r y → x.2 = y.2 → x = y) : NoClash T.length T f R B := by
  have key : ∀ {x y}, GenB T.length T f R B x y → DomB T.length T f B x ∧ DomB T.length T f B y ∧ r x = r y := by
    intro x y g
    induction g with
    | refl h => exact ⟨h, h, rfl⟩
    | base u =>
      rename_i x y
      refine ⟨?_, ?_, (e.un _ _ u).nil⟩
      · rcases u with ⟨p, a, b, hp, h1, h2, e1, e2⟩ | ⟨p, d, hp, hd, h0, rfl, e⟩
        · exact dom_kEnd hp (Wd.cons (Nat.lt_trans h1 h2) (Wd.cons h2 Wd.nil)) e1
        · exact hp
      · rcases u with ⟨p, a, b, hp, h1, h2, e1, e2⟩ | ⟨p, d, hp, hd, h0, rfl, e⟩
        · exact dom_kEnd hp (Wd.cons h2 (Wd.cons (Nat.lt_trans h1 h2) Wd.nil)) e2
        · exact dom_kEnd hp (Wd.rep hd) e
    | symm _ ih => exact ⟨ih.2.1, ih.1, ih.2.2.symm⟩
    | trans _ _ i1 i2 => exact ⟨i1.1, i2.2.1, i1.2.2.trans i2.2.2⟩
    | move hd _ e1 e2 ih => exact ⟨ih.1.step hd e1, ih.2.1.step hd e2, (e.cg hf _ ((hF _).mpr ih.1) _ ((hF _).mpr ih.2.1) ih.2.2 _ hd _ _ e1 e2).nil⟩
  intro x y g h2
  obtain ⟨a, b, c⟩ := key g
  rw [h x ((hF x).mpr a) y ((hF y).mpr b) c h2]
end
end OWP

/-! ## W21 -/
/-! W21: can it tell: the walk. -/
namespace OWP
open PySem PySem.Spec PyProof.Rows L2 OWR OW
section
variable {P : Program} {w : World} {K : PySem.W.Frag} {mg : Str → Option Value} {base : Heap} {CM CC CP : Addr}
def spTell (CM CC : Addr) : Sp := fun vs H Q _ => ∃ (m c : Addr) (bt : V) (T : List (List Nat)) (n f size many : Nat) (S R : List Nat) (B : Bgn), vs = [.ref m, vN f, .ref c, bt] ∧ MacAt CM H m T n ∧ CtrAt CC H c R ∧ Sys T n f S R ∧ BTat H bt B ∧ Bg T.length size many B ∧ size ≤ 8 ∧
  ∀ (b : Bool) H', Same H H' → (b = false → ¬ NoClash T.length T f (rd R) B) → (b = true → FullB T f B → NoClash T.length T f (rd R) B) → Q (.bl b) H'
theorem scTell : FnScope ["machine", "first", "counters", "tables", "moves", "things", "parting", "waiting", "one", "other", "move", "lot"] ["machine", "first", "counters", "tables"] (defScope (topS 47)) := ⟨rfl, rfl, rfl, by decide +kernel, rfl, by decide +kernel, by decide +kernel⟩
theorem ok_tell {f : Addr} {fd : FuncData} (F : Fun K "can_tell" "can_tell" (topS 47) f fd) (Z : Gls mg) (TM : MacC K CM) (TC : CtrC K CC) (PT : PartC K CP) (cb : Cal P w K mg base "begun_moves" 1 ["machine", "first", "tables"] (spBegun CM)) (ck : Cal P w K mg base "known_unions" 2 ["moves", "things", "deeds", "rounds"] spKun)
    (ca : Cal P w K mg base "are_parted" 1 ["pairs"] spParted) (mk : Mak P w K mg base "Parting" CP 1 ["self", "things"] (spPInit thP CP)) (mu : Mth P w K mg base CP "unite" 2 ["self", "one", "other"] (spPUnite thP CP)) (ml : Mth P w K mg base CP "all_lots" 2 ["self"] (spPLots thP CP)) :
    FnOk P w K mg base CX0 3 f fd ["machine", "first", "counters", "tables"] (spTell CM CC) := by
  refine F.ok scTell (fun vs H Q E h => ?_) (fun cdv A outer s0 H vs Q E hr h => ?_)
  · obtain ⟨m, c, bt, T, n, f, size, many, S, R, B, rfl, _⟩ := h; rfl
  · obtain ⟨m, c, bt, T, n, f, size, many, S, R, B, rfl, hM, hC, Y, hB, bg, hs8, k⟩ := h
    have hu := hu_of hr
    obtain ⟨dx, tt, us, hm, htt, hT⟩ := id hM
    obtain ⟨dy, rq, rs, hc, hrq⟩ := id hC
    refine ⟨_, pss_cons (ps_asg (pe_cal cb (hr.mono (by decide)) (by rfl) (pa_cons (pv 0) (pa_cons (pv 1) (pa_cons (pv 3) pa_nil)))) (pg_tup rfl (pgs_cons (pg_name (i := 4) scTell.nd rfl (.inl rfl)) (pgs_cons (pg_name (i := 5) scTell.nd rfl (.inl rfl)) pgs_nil))))
      (pss_cons (ps_set (i := 6) scTell.nd rfl (Or.inl rfl) (pe_mak mk hr (by rfl) (pa_cons (pv 5) pa_nil)))
      (pss_cons (ps_set (i := 7) scTell.nd rfl (Or.inl rfl) (pe_cal ck hr (by rfl) (pa_cons (pv 4) (pa_cons (pv 5) (pa_cons (pe_fld (pv 0) rfl) (pa_cons (pe_fld (pv 2) rfl) pa_nil))))))
      (pss_cons (ps_while PassesOwn.never (pt_cmpR op_gt (pe_callB call_len_seq (by rfl) Z.len (by decide +kernel) (pa_cons (pv 7) pa_nil)) pe_int (nomark _))
        (pss_cons (ps_asg (pe_bm0 PySem.F.plainAttrs_list PySem.F.slot_list_pop PySem.F.type_list_pop mt_pop (pv 7)) (pg_tup rfl (pgs_cons (pg_name (i := 8) scTell.nd rfl (.inl rfl)) (pgs_cons (pg_name (i := 9) scTell.nd rfl (.inl rfl)) pgs_nil))))
        (pss_one (ps_if (pt_val (pe_mth (pv 6) PT.cl mu hr (pa_cons (pv 8) (pa_cons (pv 9) pa_nil))))
          (pss_one (ps_for PassesOwn.never rfl (pi_list (pv 4)) (pg_name (i := 10) scTell.nd rfl (.inl rfl))
            (pss_one (ps_if (PW.pt (pw_and (pt_cmp (pc_din hu (pv 8) (pv 10))) (pw_and1 (pt_cmp (pc_din hu (pv 9) (pv 10))))))
              (pss_one (ps_expr (pe_bm PySem.F.plainAttrs_list PySem.F.slot_list_append PySem.F.type_list_append mt_append (pv 7) (pa_cons (pe_tup (pa_cons (pe_dget hu (pv 10) (pv 8) (fun _ _ => rfl)) (pa_cons (pe_dget hu (pv 10) (pv 9) (fun _ _ => rfl)) pa_nil))) pa_nil))))
              pss_nil)))) pss_nil))))
      (pss_one (ps_ret (pe_callB (cr_all rfl) (by rfl) Z.all (by decide +kernel) (pa_cons
          (pe_lc (own := [("lot", 11)]) (g := gName 11) (tt := tYes) (te := tCall spParted [] E0 (tCons (tVar 11) tNil)) rfl scTell.nd (pi_tup (pe_mth0 (pv 6) PT.cl ml hr)) (blkOk_by (N := ["machine", "first", "counters", "tables", "moves", "things", "parting", "waiting", "one", "other", "move", "lot"]) (sc := defScope (topS 47)) (by decide +kernel))
            (fun _ _ _ _ _ => pg_name (i := 11) scTell.nd rfl (.inl rfl)) (fun _ _ _ _ _ => pts_nil) (fun _ _ _ _ _ => pe_cal ca (hr.mono (by decide)) (by rfl) (pa_cons (pv 11) pa_nil))) pa_nil))))))), ?_⟩
    refine ⟨_, rfl, _, rfl, _, rfl, m, bt, T, n, f, size, many, B, rfl, hM, Y.tb, Y.lt, hB, bg, hs8, fun q H1 mo tl ks F s1 hq hMB htl hks hnd hF hF64 => ?_⟩
    refine ⟨q, _, rfl, .inl (.inl hq), rfl, _, _, rfl, _, _, rfl, rfl, ?_⟩
    refine ⟨_, rfl, ?_⟩
    intro p dx2 hp0 hdx0 hpdx
    have s2 : Same H1 (upd (upd H1 dx2 (.own p)) p (.ins CP dx2 [])) := (Same.upd hdx0).new (by rw [upd_ne hpdx.symm]; exact hp0)
    refine ⟨p, dx2, tl, ks, F, rfl, upd_same, s2 _ _ htl, pmap hks fun _ _ z => thP.keep (.of s2) z, hnd, by omega, fun d H3 sm hd0 pa3 => ⟨rfl, ?_⟩⟩
    have s13 : Same H1 H3 := fun b o eb => sm _ _ (s2 _ _ eb) (ne_of_none eb hp0)
    have s3 := s1.trans s13
    have p0 : H p = none := s1.free hp0
    have d0 : H d = none := s1.free (s2.free hd0)
    have d01 : H1 d = none := s2.free hd0
    refine ⟨_, rfl, _, rfl, _, rfl, m, CM, dx, _, _, rfl, s3 _ _ hm, TM.cl, TM.dd, lk1 (by decide +kernel) lk0, _, rfl, c, CC, dy, _, _, rfl, s3 _ _ hc, TC.cl, TC.rd, lk1 (by decide +kernel) lk0, ?_⟩
    refine ⟨mo, tl, rq, T, f, B, R, F, ks, rfl, hMB.keep s13, Y.tb.len4, Y.rl, Y.r60, s13 _ _ htl, pmap hks fun _ _ z => thP.keep (.of s13) z, fun p hp => (hF p).mp hp, hF64, s3 _ _ hrq, fun wl H4 us0 s34 hwl hw4 hps lus0 => ?_⟩
    generalize hpsn : (F.flatMap (fins T B (rowsOf T.length R))).filterMap both = ps0 at hps
    have ec0 : EC T f B (rd R) F id ps0 := EC.start hF fun x y => by rw [← hpsn]; exact un_iff hF x y
    have s14 := s13.trans s34
    have wl01 : H1 wl = none := s13.free hwl
    have pa4 : PartAt thP CP H4 p d F id id := pa3.keep (fun o e => s34 _ _ e) (fun o e => s34 _ _ e) (.of s34)
    obtain ⟨bs, hbs0, hbl, hbs⟩ := (hMB.keep (Same.refl H1)).ex
    refine ⟨fun mm σ H5 => ∃ (h r : Nat × Nat → Nat × Nat) (us : List V) (ps : List ((Nat × Nat) × (Nat × Nat))) (x y z : Option V), mm = us.length + 5 * cntR F r ∧ mm ≤ 960 ∧ σ = [some (.ref m), some (vN f), some (.ref c), some bt, some (.ref mo), some (.ref tl), some (.ref p), some (.ref wl), x, y, z, none] ∧ Same H1 H5 ∧ PartAt thP CP H5 p d F h r ∧ EC T f B (rd R) F r ps ∧ H5 wl = some (.lst us) ∧ Paired (PP H5) us ps,
      ⟨_, id, id, us0, ps0, none, none, none, rfl, ?_, rfl, s14, pa4, ec0, hw4, hps⟩, ?_⟩
    · have := cntR_le F id
      omega
    rintro mm σ H5 ⟨h, r, us, ps, x, y, z, rfl, hmm, rfl, s5, pa5, ec, hw5, hps5⟩
    refine ⟨_, rfl, wl, us, rfl, .inl (.of hw5), _, _, rfl, rfl, _, rfl, ?_⟩
    refine ite2 (fun hpos => ?_) (fun hz => ?_)
    · have hl : 0 < us.length := by have := of_decide_eq_true hpos; omega
      obtain ⟨u, hu1, eu⟩ := last_of hl
      generalize hus : us.dropLast = us' at eu
      subst eu
      obtain ⟨ps', ⟨a, b⟩, rfl, hps', ⟨q, v1, v2, rfl, hq5, r1, r2⟩⟩ := psplit hps5
      have hps' : Paired (PP H5) us' ps' := hps'
      have r1 : repP H5 v1 a := r1
      have r2 : repP H5 v2 b := r2
      obtain ⟨ha, hb, gab⟩ := ec.sp a b (by simp)
      refine ⟨fun σ2 H2 => ∃ (h2 r2 : Nat × Nat → Nat × Nat) (us2 : List V) (ps2 : List ((Nat × Nat) × (Nat × Nat))) (x y z : Option V), us2.length + 5 * cntR F r2 + 1 ≤ (us' ++ [V.ref q]).length + 5 * cntR F r ∧ σ2 = [some (.ref m), some (vN f), some (.ref c), some bt, some (.ref mo), some (.ref tl), some (.ref p), some (.ref wl), x, y, z, none] ∧ Same H1 H2 ∧ PartAt thP CP H2 p d F h2 r2 ∧ EC T f B (rd R) F r2 ps2 ∧ H2 wl = some (.lst us2) ∧ Paired (PP H2) us2 ps2,
        fun σ' H' ⟨h2, r2, us2, ps2, x2, y2, z2, a1, a2, a3⟩ => ⟨us2.length + 5 * cntR F r2, by omega, h2, r2, us2, ps2, x2, y2, z2, rfl, by omega, a2, a3⟩, ?_⟩
      have hl3 : (us' ++ [V.ref q]).length = us'.length + 1 := by simp
      have edl : (us' ++ [V.ref q]).dropLast = us' := List.dropLast_concat
      refine ⟨_, rfl, .inl ⟨rfl, _, .of hw5⟩, wl, _, V.ref q, rfl, rfl, hw5, (by rw [hl3]; simp), ?_⟩
      rw [edl]
      have sW : Same H1 (upd H5 wl (.lst us')) := s5.mut wl01
      have kW : TK H5 (upd H5 wl (.lst us')) := TK.lst hw5
      obtain ⟨dx5, hp5⟩ := pa5.ob
      obtain ⟨kvs5, hd5, _, _⟩ := pa5.dc
      have npw : p ≠ wl := ne_of hp5 hw5 fun z => nomatch z
      have ndw : d ≠ wl := ne_of hd5 hw5 fun z => thP.nlst _ _ z
      have paW : PartAt thP CP (upd H5 wl (.lst us')) p d F h r := pa5.keep (fun o e => by rw [upd_ne npw]; exact e) (fun o e => by rw [upd_ne ndw]; exact e) kW
      refine ⟨q, _, rfl, .inl (.inl (kW _ _ hq5)), rfl, _, _, rfl, _, _, rfl, rfl, ?_⟩
      obtain ⟨dxW, hpW⟩ := paW.ob
      refine ⟨_, rfl, p, dxW, _, rfl, hpW, (lk1 (by decide +kernel) rfl), _, rfl, _, rfl, p, d, _, _, F, h, r, a, b, rfl, paW, by omega, ha, hb, thP.keep kW r1, thP.keep kW r2, fun H6 s6 k6 pa6 => ?_⟩
      have hw6 : H6 wl = some (.lst us') := s6 _ _ upd_same ndw.symm
      have sH6 : Same H1 H6 := fun c o e => s6 _ _ (sW _ _ e) (ne_of_none e d01)
      have kk := kW.trans k6
      have ps6 : Paired (PP H6) us' ps' := pmap hps' fun _ _ z => z.keep kk
      have r16 := thP.keep kk r1
      have r26 := thP.keep kk r2
      refine ⟨_, rfl, ?_⟩
      by_cases hne : r a = r b
      · rw [decide_eq_true hne]
        refine iteF ?_
        refine ⟨_, _, us', ps', _, _, _, ?_, rfl, sH6, pa6, ?_, hw6, ps6⟩
        · rw [hne, setR_self]; omega
        · rw [hne, setR_self]; exact ec.same hne
      · rw [decide_eq_false hne]
        refine iteT ?_
        have hcnt : cntR F (setR r (r b) (r a)) + 1 ≤ cntR F r := pa5.fo.cnt hnd ha hb hne
        have hda := (hF a).mp ha
        have hdb := (hF b).mp hb
        refine ⟨_, rfl, mo, rfl, ⟨_, .of (sH6 _ _ hbs0)⟩, ?_⟩
        refine for_list (K := K) (a := mo) (xs := bs.map V.ref) (fun i σ H7 => ∃ (us7 : List V) (ps7 : List ((Nat × Nat) × (Nat × Nat))) (z : Option V), us7.length ≤ us'.length + i ∧ σ = [some (.ref m), some (vN f), some (.ref c), some bt, some (.ref mo), some (.ref tl), some (.ref p), some (.ref wl), some v1, some v2, z, none] ∧ Same H1 H7 ∧ PartAt thP CP H7 p d F (setH h (r b) (r a)) (setR r (r b) (r a)) ∧ TK H6 H7 ∧ H7 wl = some (.lst us7) ∧ Paired (PP H7) us7 ps7 ∧
            (∀ z, z ∈ ps' → z ∈ ps7) ∧ (∀ d, d < i → ∀ x y, mvB T B d a = some x → mvB T B d b = some y → (x, y) ∈ ps7) ∧ (∀ x y, (x, y) ∈ ps7 → (x, y) ∈ ps' ∨ ∃ d, d < T.length ∧ mvB T B d a = some x ∧ mvB T B d b = some y))
          ⟨us', ps', _, Nat.le_refl _, rfl, sH6, pa6, TK.refl, hw6, ps6, fun z hz => hz, fun d hd => by omega, fun x y hz => .inl hz⟩ (fun i σ H7 _ ⟨_, _, _, _, _, z, _⟩ => .of (z _ _ hbs0)) ?_ ?_
        · rintro i v σ H7 hv ⟨us7, ps7, z7, l7, rfl, s7, pa7, k7, w7, q7, a1, a2, a3⟩
          have hiD : i < T.length := by rw [← hbl]; have := (List.getElem?_eq_some_iff.mp hv).1; rwa [List.length_map] at this
          obtain ⟨bi, kvs, e1, e2, e3⟩ := hbs i hiD
          rw [List.getElem?_map, e1] at hv
          cases hv
          have e7 := s7 _ _ e2
          have r17 := thP.keep k7 r16
          have r27 := thP.keep k7 r26
          have oa := (e3 a hda).keep (.of s7)
          have ob := (e3 b hdb).keep (.of s7)
          have skip : (mvB T B i a = none ∨ mvB T B i b = none) → ∃ (us8 : List V) (ps8 : List ((Nat × Nat) × (Nat × Nat))) (z : Option V), us8.length ≤ us'.length + (i + 1) ∧ [some (V.ref m), some (vN f), some (.ref c), some bt, some (.ref mo), some (.ref tl), some (.ref p), some (.ref wl), some v1, some v2, some (.ref bi), none] = [some (V.ref m), some (vN f), some (.ref c), some bt, some (.ref mo), some (.ref tl), some (.ref p), some (.ref wl), some v1, some v2, z, none] ∧ Same H1 H7 ∧ PartAt thP CP H7 p d F (setH h (r b) (r a)) (setR r (r b) (r a)) ∧ TK H6 H7 ∧ H7 wl = some (.lst us8) ∧ Paired (PP H7) us8 ps8 ∧
            (∀ z, z ∈ ps' → z ∈ ps8) ∧ (∀ d, d < i + 1 → ∀ x y, mvB T B d a = some x → mvB T B d b = some y → (x, y) ∈ ps8) ∧ (∀ x y, (x, y) ∈ ps8 → (x, y) ∈ ps' ∨ ∃ d, d < T.length ∧ mvB T B d a = some x ∧ mvB T B d b = some y) := fun no =>
            ⟨us7, ps7, _, by omega, rfl, s7, pa7, k7, w7, q7, a1, fun d hd x y f1 f2 => by
              by_cases z : d = i
              · subst z
                rcases no with z | z
                · rw [z] at f1; cases f1
                · rw [z] at f2; cases f2
              · exact a2 d (by omega) x y f1 f2, a3⟩
          refine ⟨_, rfl, _, rfl, bi, _, rfl, thP.get e7 r17, _, rfl, ?_⟩
          rcases oa with ⟨z1, z2⟩ | ⟨x1, x2, z1, z2, rx⟩
          · rw [z1]
            exact iteF (iteF (skip (.inl z2)))
          · rw [z1]
            refine iteT ⟨_, rfl, _, rfl, bi, _, rfl, thP.get e7 r27, _, rfl, ?_⟩
            rcases ob with ⟨y1, y2⟩ | ⟨y0, y2, y1, y3, ry⟩
            · rw [y1]
              exact iteF (skip (.inr y2))
            · rw [y1]
              refine iteT ?_
              have g1 := thP.get e7 r17
              rw [z1] at g1
              have g2 := thP.get e7 r27
              rw [y1] at g2
              refine ⟨_, rfl, .inl ⟨rfl, _, .of w7⟩, _, rfl, _, rfl, bi, _, rfl, g1, _, rfl, _, rfl, bi, _, rfl, g2, (by show 2 ≤ sizeLine; decide), fun t ht => ?_⟩
              have w7' := at_new (o := .tup [x1, y0]) w7 ht
              have kt := (TK.new (o := .tup [x1, y0]) ht).trans (TK.lst w7' (o := .lst (us7 ++ [V.ref t])))
              have npt : p ≠ t := let ⟨_, z⟩ := pa7.ob; ne_of_none z ht
              have ndt : d ≠ t := let ⟨_, z, _⟩ := pa7.dc; ne_of_none z ht
              have i4 := Y.tb.len4
              refine ⟨wl, us7, _, rfl, rfl, w7', small1000 (by omega), ?_⟩
              refine ⟨us7 ++ [V.ref t], ps7 ++ [(x2, y2)], _, by rw [List.length_append]; show us7.length + 1 ≤ _; omega, rfl, (s7.new ht).mut wl01, pa7.keep (fun o e => by rw [upd_ne npw, upd_ne npt]; exact e) (fun o e => by rw [upd_ne ndw, upd_ne ndt]; exact e) kt, k7.trans kt, upd_same,
                psnoc (pmap q7 fun _ _ z => z.keep kt) ⟨t, x1, y0, rfl, TK.lst w7' _ _ upd_same, thP.keep kt rx, thP.keep kt ry⟩, fun z hz => List.mem_append_left _ (a1 z hz), fun d hd x y f1 f2 => ?_, fun x y hz => ?_⟩
              · by_cases z : d = i
                · subst z
                  rw [z2] at f1
                  rw [y3] at f2
                  cases f1
                  cases f2
                  simp
                · exact List.mem_append_left _ (a2 d (by omega) x y f1 f2)
              · obtain hz | hz := List.mem_append.mp hz
                · exact a3 x y hz
                · have := List.mem_singleton.mp hz
                  cases this
                  exact .inr ⟨i, hiD, z2, y3⟩
        · rintro σ H7 ⟨us7, ps7, z7, l7, rfl, s7, pa7, k7, w7, q7, a1, a2, a3⟩
          rw [List.length_map, hbl] at a2 l7
          have i4 := Y.tb.len4
          exact ⟨_, _, us7, ps7, _, _, _, by omega, rfl, s7, pa7, ec.join pa5.fo hF a1 a2 a3, w7, q7⟩
    · have hU0 : us = [] := List.eq_nil_of_length_eq_zero (by
        have : ¬ (0 : Int) < (us.length : Int) := fun z => hz (decide_eq_true z)
        omega)
      subst hU0
      cases hps5
      obtain ⟨dx5, hp5⟩ := pa5.ob
      refine ⟨_, rfl, p, dx5, _, rfl, hp5, (lk1 (by decide +kernel) rfl), p, d, F, h, r, rfl, pa5, hnd, by omega, fun q2 H6 us6 lots s6 hq6 hp6 ok => ⟨q2, rfl, ⟨_, .inl (.inl hq6)⟩, fun L hL => ?_⟩⟩
      have bl := ok.len
      have lus6 : us6.length = lots.length := plen hp6
      refine lc_tup (K := K) (a := q2) (xs := us6) (fun i H7 => Same H6 H7 ∧ H7 L = some (.lst ((lots.take i).map fun lot => V.bl (decide (lot.map (·.2)).Nodup)))) ⟨Same.upd hL, upd_same⟩ (fun i H7 _ z => .inl (.inl (z.1 _ _ hq6))) ?_ ?_
      · rintro i x H7 hx ⟨s7, e7⟩
        obtain ⟨lot, hlot, rep⟩ := pget hp6 hx
        obtain ⟨o1, o2, cc, o3⟩ := ok.lot lot (List.mem_of_getElem? hlot)
        obtain ⟨la, lx, rfl, _, _⟩ := id rep
        have ll : lot.length ≤ 64 := by
          have := nodup_sub o2 (m := F) fun t ht => ((o3 t).mp ht).1
          omega
        have hi : i < us6.length := (List.getElem?_eq_some_iff.mp hx).1
        refine ⟨rfl, yes ⟨_, rfl, la, lot, rfl, rep.keep (.of s7), o2, by omega, fun H8 s8 => ?_⟩⟩
        refine ⟨_, s8 _ _ e7, ?_, (s7.trans s8).mut hL, ?_⟩
        · rw [List.length_map, List.length_take]; exact small1000 (by omega)
        · rw [upd_same, List.take_add_one, hlot, List.map_append]; rfl
      · rintro H7 ⟨s7, e7⟩
        rw [lus6, List.take_length] at e7
        refine ⟨L, lots.map fun lot => decide (lot.map (·.2)).Nodup, rfl, .of (by rw [e7, List.map_map]; rfl), ?_⟩
        refine k _ H7 (s1.trans (s5.trans (s6.trans s7))) (fun hf => ?_) fun ht hfull => ?_
        · have hnot : ¬ ∀ x ∈ lots.map (fun lot => decide (lot.map (·.2)).Nodup), id x = true := fun z => by
            rw [List.all_eq_true.mpr z] at hf; cases hf
          have : ∃ lot, lot ∈ lots ∧ ¬ (lot.map (·.2)).Nodup := Classical.byContradiction fun z => hnot fun x hx => by
            obtain ⟨lot, hlot, rfl⟩ := List.mem_map.mp hx
            exact decide_eq_true (Classical.byContradiction fun z2 => z ⟨lot, hlot, z2⟩)
          obtain ⟨lot, hlot, hnn⟩ := this
          obtain ⟨o1, o2, cc, o3⟩ := ok.lot lot hlot
          obtain ⟨i, j, hij, hj, hi, e⟩ := not_nodup_dup hnn
          rw [List.length_map] at hi hj
          rw [List.getElem_map, List.getElem_map] at e
          have m1 := (o3 _).mp (List.getElem_mem hi)
          have m2 := (o3 _).mp (List.getElem_mem hj)
          refine ec.bad m1.1 m2.1 (by rw [m1.2, m2.2]) e fun z => ?_
          have := (List.getElem_inj o2).mp z
          omega
        · refine ec.good hF hfull fun x hx y hy e1 e2 => ?_
          obtain ⟨lot, hlot, hxl⟩ := ok.all x hx
          obtain ⟨o1, o2, cc, o3⟩ := ok.lot lot hlot
          have hyl : y ∈ lot := (o3 y).mpr ⟨hy, by rw [← e1]; exact ((o3 x).mp hxl).2⟩
          have hnn : (lot.map (·.2)).Nodup := by
            have := List.all_eq_true.mp ht _ (List.mem_map.mpr ⟨lot, hlot, rfl⟩)
            exact of_decide_eq_true this
          obtain ⟨i, hi, ei⟩ := List.getElem_of_mem hxl
          obtain ⟨j, hj, ej⟩ := List.getElem_of_mem hyl
          have z1 : (lot.map (·.2))[i]? = some x.2 := by rw [List.getElem?_map, List.getElem?_eq_getElem hi, ei]; rfl
          have z2 : (lot.map (·.2))[j]? = some x.2 := by rw [List.getElem?_map, List.getElem?_eq_getElem hj, ej, e2]; rfl
          have := nd_ix hnn z1 z2
          subst this
          rw [← ei, ← ej]
end
end OWP

/-! ## W22 -/
/-! W22: open spots; steps told. -/
namespace OWP
open PySem PySem.Spec PyProof.Rows L2 OWR OW
theorem cut_to (xs : List V) (k : Nat) : cutV xs none (some (k : Int)) = xs.take k := by
  unfold cutV
  rw [HT.sIx_none, HT.sIx_nat, List.drop_zero, Nat.sub_zero]
  by_cases h : k ≤ xs.length
  · rw [Nat.min_eq_left h]
  · rw [Nat.min_eq_right (by omega), List.take_length, List.take_of_length_le (by omega)]
theorem sl_lo {K : PySem.W.Frag} {H : Hp} {a : Addr} {xs : List V} {k : Nat} {Q : VK} (ha : H a = some (.tup xs)) (h : ∀ p H', Same H H' → H' p = some (.tup (xs.take k)) → Q (.ref p) H') : rSlA K (.ref a) none (some (k : Int)) H Q := by
  refine ⟨a, xs, rfl, .inl (.inl ha), fun hw => h a H (Same.refl H) ?_, fun _ p hp => ?_⟩
  · have := hw.2
    rw [HT.sIx_nat] at this
    rw [List.take_of_length_le (by omega)]; exact ha
  · rw [cut_to]; exact h p _ (Same.upd hp) upd_same
theorem sl_hi {K : PySem.W.Frag} {H : Hp} {a : Addr} {xs : List V} {k : Nat} {Q : VK} (ha : H a = some (.tup xs)) (h : ∀ p H', Same H H' → H' p = some (.tup (xs.drop k)) → Q (.ref p) H') : rSlA K (.ref a) (some (k : Int)) none H Q := by
  refine ⟨a, xs, rfl, .inl (.inl ha), fun hw => h a H (Same.refl H) ?_, fun _ p hp => ?_⟩
  · have := hw.1
    rw [HT.sIx_nat] at this
    by_cases z : xs.length = 0
    · rw [List.eq_nil_of_length_eq_zero z] at ha ⊢
      rw [List.drop_nil]; exact ha
    · have : k = 0 := by omega
      rw [this, List.drop_zero]; exact ha
  · rw [cut_from]; exact h p _ (Same.upd hp) upd_same
theorem cat_t {K : PySem.W.Frag} {H : Hp} {a b : Addr} {xs ys : List V} {Q : VK} (ha : H a = some (.tup xs)) (hb : H b = some (.tup ys)) (hl : xs.length + ys.length ≤ 1000) (h : ∀ p H', Same H H' → H' p = some (.tup (xs ++ ys)) → Q (.ref p) H') : rCatA K (.ref a) (.ref b) H Q := by
  refine ⟨a, b, xs, ys, rfl, rfl, .inl (.inl ha), .inl (.inl hb), Nat.le_of_lt (small1000 hl), fun e => h b H (Same.refl H) ?_, fun _ e => h a H (Same.refl H) ?_, fun _ _ p hp => h p _ (Same.upd hp) upd_same⟩
  · rw [e, List.nil_append]; exact hb
  · rw [e, List.append_nil]; exact ha
theorem set_cut {α : Type} (l : List α) (i : Nat) (x : α) (h : i < l.length) : l.set i x = l.take i ++ [x] ++ l.drop (i + 1) := by
  rw [List.set_eq_take_append_cons_drop, if_pos h, List.append_assoc]; rfl
theorem ptake {α β : Type} {R : α → β → Prop} : ∀ {xs : List α} {ys : List β} (k : Nat), Paired R xs ys → Paired R (xs.take k) (ys.take k)
  | _, _, 0, _ => .nil
  | _, _, _ + 1, .nil => .nil
  | _, _, k + 1, .cons r t => .cons r (ptake k t)
theorem pdrop {α β : Type} {R : α → β → Prop} : ∀ {xs : List α} {ys : List β} (k : Nat), Paired R xs ys → Paired R (xs.drop k) (ys.drop k)
  | _, _, 0, h => h
  | _, _, _ + 1, .nil => .nil
  | _, _, k + 1, .cons r t => pdrop k t
section
variable {P : Program} {w : World} {K : PySem.W.Frag} {mg : Str → Option Value} {base : Heap} {CM CC CP : Addr}
def spSpot : Sp := fun vs H Q _ => ∃ (bt : V) (B : Bgn) (D size many : Nat), vs = [bt, vN many] ∧ BTat H bt B ∧ B.length = D ∧ (∀ d, d < D → (B.getD d []).length = size) ∧ many ≤ size ∧ size ≤ 1000 ∧
  ((∀ a, a < many → ∀ d, d < D → bval B d a ≠ none) → ∀ H', Same H H' → Q .non H') ∧ (∀ a d, a < many → d < D → bval B d a = none → ∀ q H', Same H H' → H' q = some (.tup [vN a, vN d]) → Q (.ref q) H')
theorem scSpot : FnScope ["tables", "many", "standing", "deed", "table"] ["tables", "many"] (defScope (topS 48)) := ⟨rfl, rfl, rfl, by decide +kernel, rfl, by decide +kernel, by decide +kernel⟩
theorem ok_spot {f : Addr} {fd : FuncData} (F : Fun K "open_spot" "open_spot" (topS 48) f fd) (Z : Gls mg) : FnOk P w K mg base CX0 1 f fd ["tables", "many"] spSpot := by
  refine F.ok scSpot (fun vs H Q E h => ?_) (fun cdv A outer s0 H vs Q E hr h => ?_)
  · obtain ⟨bt, B, D, size, many, rfl, _⟩ := h; rfl
  · obtain ⟨bt, B, D, size, many, rfl, ⟨ba, bvs, rfl, hba, hrows⟩, hBD, hrow, hms, hs, k1, k2⟩ := h
    refine ⟨_, pss_cons (ps_for PassesOwn.never rfl (pi_range1 (by rfl) Z.range (pa_cons (pv 1) pa_nil)) (pg_name (i := 2) scSpot.nd rfl (Or.inl rfl))
        (pss_one (ps_for PassesOwn.never rfl (pi_enumT (by rfl) Z.enum (pa_cons (pv 0) pa_nil)) (pg_tup rfl (pgs_cons (pg_name (i := 3) scSpot.nd rfl (.inl rfl)) (pgs_cons (pg_name (i := 4) scSpot.nd rfl (.inl rfl)) pgs_nil)))
          (pss_one (ps_if (pt_cmpR op_isN1 (pe_ix ix_tup (pv 4) (pv 2) (fun _ _ => rfl)) pe_non (nomark _)) (pss_one (ps_ret (pe_tup (pa_cons (pv 2) (pa_cons (pv 3) pa_nil))))) pss_nil)))))
      (pss_one (ps_ret pe_non)), ?_⟩
    have lbv : bvs.length = D := by rw [plen hrows]; exact hBD
    refine ⟨_, rfl, (many : Int), rfl, by omega, by omega, ?_⟩
    refine for_it walk_range (fun i σ H2 => Same H H2 ∧ (∀ a, a < i → ∀ d, d < D → bval B d a ≠ none) ∧ ∃ x y z, σ = [some (.ref ba), some (vN many), x, y, z]) ⟨Same.refl _, fun a ha => by omega, _, _, _, rfl⟩ (fun _ _ _ _ _ => True.intro) ?_ ?_
    · rintro i x σ H2 H3 hi ⟨s2, no, x0, y0, z0, rfl⟩ ⟨rfl, ex⟩
      obtain rfl := yN ex
      refine ⟨_, rfl, ba, bvs, rfl, .inl (.inl (s2 _ _ hba)), ?_⟩
      refine for_it walk_enumT (fun j σ H3 => Same H H3 ∧ (∀ d, d < j → bval B d i ≠ none) ∧ ∃ y z, σ = [some (.ref ba), some (vN many), some (vN i), y, z]) ⟨s2, fun d hd => by omega, _, _, rfl⟩ (fun j σ H3 _ q => .inl (.inl (q.1 _ _ hba))) ?_ ?_
      · rintro j v σ H3 H4 hj ⟨s3, no2, y1, z1, rfl⟩ ⟨Tp, x1, x2, rfl, hTp, rfl, ex1, ex2⟩
        cases ex1
        have ex2 : bvs[j]? = some x2 := ex2
        obtain ⟨row, hr1, ⟨rl, rfl, hrl⟩⟩ := pget hrows ex2
        have hjD : j < D := by omega
        have erow : B.getD j [] = row := by rw [List.getD_eq_getElem?_getD, hr1]; rfl
        have hrs : row.length = size := by rw [← erow]; exact hrow j hjD
        have ebv : row.getD i none = bval B j i := by unfold bval; rw [erow]
        have s4 := s3.new (o := .tup [vN j, V.ref rl]) hTp
        have aty : atI (row.map oV) ((i : Nat) : Int) = some (oV (bval B j i)) := by rw [← ebv]; exact at_oV (by omega)
        refine ⟨Tp, _, rfl, .inl (.inl upd_same), rfl, _, _, rfl, _, _, rfl, rfl, ?_⟩
        refine ⟨_, rfl, _, rfl, rl, _, _, _, rfl, rfl, .inl (.inl (s4 _ _ hrl)), aty, rfl, _, rfl, ?_⟩
        cases hbv : bval B j i with
        | none =>
          refine iteT ⟨_, rfl, _, rfl, (by show 2 ≤ sizeLine; decide), fun q hq => ?_⟩
          exact k2 i j (by omega) hjD hbv q _ (s4.new hq) upd_same
        | some y =>
          refine iteF ⟨s4, fun d hd => ?_, _, _, rfl⟩
          by_cases z : d = j
          · rw [z, hbv]; exact fun z => nomatch z
          · exact no2 d (by omega)
      · rintro σ H3 ⟨s3, no2, y1, z1, rfl⟩
        rw [lbv] at no2
        refine ⟨s3, fun a ha d hd => ?_, _, _, _, rfl⟩
        by_cases z : a = i
        · rw [z]; exact no2 d hd
        · exact no a (by omega) d hd
    · rintro σ H2 ⟨s2, no, x0, y0, z0, rfl⟩
      exact k1 (fun a ha => no a (by omega)) H2 s2
def spStep : Sp := fun vs H Q _ => ∃ (bt : V) (q : Addr) (B : Bgn) (d a b : Nat), vs = [bt, .ref q, vN b] ∧ BTat H bt B ∧ H q = some (.tup [vN a, vN d]) ∧ d < B.length ∧ B.length ≤ 100 ∧ a < (B.getD d []).length ∧ (B.getD d []).length ≤ 100 ∧ ∀ v H', Same H H' → BTat H' v (setB B d a b) → Q v H'
theorem scStep : FnScope ["tables", "spot", "standing", "at", "deed", "row"] ["tables", "spot", "standing"] (defScope (topS 49)) := ⟨rfl, rfl, rfl, by decide +kernel, rfl, by decide +kernel, by decide +kernel⟩
theorem ok_step {f : Addr} {fd : FuncData} (F : Fun K "with_step" "with_step" (topS 49) f fd) : FnOk P w K mg base CX0 1 f fd ["tables", "spot", "standing"] spStep := by
  refine F.ok scStep (fun vs H Q E h => ?_) (fun cdv A outer s0 H vs Q E hr h => ?_)
  · obtain ⟨bt, q, B, d, a, b, rfl, _⟩ := h; rfl
  · obtain ⟨bt, q, B, d, a, b, rfl, ⟨ba, bvs, rfl, hba, hrows⟩, hq, hd, hB1, ha, hr1, k⟩ := h
    refine ⟨_, pss_cons (ps_asg (pv 1) (pg_tup rfl (pgs_cons (pg_name (i := 3) scStep.nd rfl (.inl rfl)) (pgs_cons (pg_name (i := 4) scStep.nd rfl (.inl rfl)) pgs_nil))))
      (pss_cons (ps_set (i := 5) scStep.nd rfl (Or.inl rfl) (pe_op op_catA (pe_op op_catA (pe_slice sl_tupA (pe_ix ix_tup (pv 0) (pv 4) (fun _ _ => rfl)) po_none (po_some (pv 3))) (pe_tup (pa_cons (pv 2) pa_nil))) (pe_slice sl_tupA (pe_ix ix_tup (pv 0) (pv 4) (fun _ _ => rfl)) (po_some (pe_op op_add (pv 3) pe_int)) po_none)))
      (pss_one (ps_ret (pe_op op_catA (pe_op op_catA (pe_slice sl_tupA (pv 0) po_none (po_some (pv 4))) (pe_tup (pa_cons (pv 5) pa_nil))) (pe_slice sl_tupA (pv 0) (po_some (pe_op op_add (pv 4) pe_int)) po_none))))), ?_⟩
    obtain ⟨row, hrow⟩ : ∃ row, B[d]? = some row := ⟨_, List.getElem?_eq_getElem hd⟩
    obtain ⟨u, hu, ⟨rl, rfl, hrl⟩⟩ := pget' hrows hrow
    have erow : B.getD d [] = row := by rw [List.getD_eq_getElem?_getD, hrow]; rfl
    rw [erow] at ha hr1
    have lbv : bvs.length = B.length := plen hrows
    have ej : ∀ n : Nat, ((n : Int) + 1) = ((n + 1 : Nat) : Int) := fun n => by omega
    refine ⟨_, rfl, q, _, rfl, .inl (.inl hq), rfl, _, _, rfl, _, _, rfl, rfl, ?_⟩
    refine ⟨_, rfl, _, rfl, ba, bvs, _, _, rfl, rfl, .inl (.inl hba), at_V hu, _, rfl, _, rfl, ?_⟩
    refine sl_lo hrl fun p1 H1 s1 hp1 => ?_
    refine ⟨_, rfl, (by show 1 ≤ sizeLine; decide), fun p2 hp2 => ?_⟩
    have s2 := s1.new (o := .tup [vN b]) hp2
    have hp1' := at_new (o := .tup [vN b]) hp1 hp2
    refine cat_t hp1' upd_same ?_ fun p3 H3 s3 hp3 => ?_
    · rw [List.length_take, List.length_map]; show _ + 1 ≤ 1000; omega
    have s03 := s2.trans s3
    refine ⟨_, rfl, _, rfl, ba, bvs, _, _, rfl, rfl, .inl (.inl (s03 _ _ hba)), at_V hu, _, rfl, _, _, rfl, rfl, _, rfl, ?_⟩
    rw [ej]
    unfold tNoPart; dsimp only
    refine sl_hi (s03 _ _ hrl) fun p4 H4 s4 hp4 => ?_
    refine cat_t (s4 _ _ hp3) hp4 ?_ fun p5 H5 s5 hp5 => ?_
    · rw [List.length_append, List.length_take, List.length_drop, List.length_map]; show _ + 1 + _ ≤ 1000; omega
    have s05 := s03.trans (s4.trans s5)
    have hp5' : H5 p5 = some (.tup ((row.set a (some b)).map oV)) := by
      rw [hp5, set_cut _ _ _ ha, List.map_append, List.map_append, List.map_take, List.map_drop]; rfl
    refine ⟨_, rfl, _, rfl, _, rfl, ?_⟩
    refine sl_lo (s05 _ _ hba) fun p6 H6 s6 hp6 => ?_
    refine ⟨_, rfl, (by show 1 ≤ sizeLine; decide), fun p7 hp7 => ?_⟩
    have s7 := s6.new (o := .tup [V.ref p5]) hp7
    have hp6' := at_new (o := .tup [V.ref p5]) hp6 hp7
    refine cat_t hp6' upd_same ?_ fun p8 H8 s8 hp8 => ?_
    · rw [List.length_take]; show _ + 1 ≤ 1000; omega
    have s08 := s05.trans (s7.trans s8)
    refine ⟨_, rfl, _, rfl, _, _, rfl, rfl, ⟨_, rfl, ?_⟩⟩
    rw [ej]
    refine sl_hi (s08 _ _ hba) fun p9 H9 s9 hp9 => ?_
    refine cat_t (s9 _ _ hp8) hp9 ?_ fun p10 H10 s10 hp10 => ?_
    · rw [List.length_append, List.length_take, List.length_drop]; show _ + 1 + _ ≤ 1000; omega
    have s010 := s08.trans (s9.trans s10)
    refine k _ H10 s010 ⟨p10, _, rfl, hp10, ?_⟩
    unfold setB
    rw [set_cut _ _ _ hd, erow]
    have rk := pmap hrows fun u (row : List (Option Nat)) (⟨b, e, y⟩ : ∃ b, u = V.ref b ∧ H b = some (HO.tup (row.map oV))) => (⟨b, e, s010 _ _ y⟩ : ∃ b, u = V.ref b ∧ H10 b = some (HO.tup (row.map oV)))
    refine papp (papp (ptake d rk) (.cons ⟨p5, rfl, ?_⟩ .nil)) (pdrop (d + 1) rk)
    exact s10 _ _ (s9 _ _ (s8 _ _ (s7 _ _ hp5')))
end
end OWP

/-! ## W23 -/
/-! W23: the finder: what is begun on. -/
namespace OWP
open PySem PySem.Spec PyProof.Rows L2 OWR OW
theorem inV_oV (b : Nat) : ∀ row : List (Option Nat), inV (vN b) (row.map oV) = row.any fun o => decide (o = some b)
  | [] => rfl
  | o :: r => by
    have ih := inV_oV b r
    unfold inV at ih ⊢
    rw [List.map_cons, List.any_cons, List.any_cons, ih]
    congr 1
    cases o with
    | none => rfl
    | some n =>
      show decide ((n : Int) = (b : Int)) = _
      exact decide_eq_decide.mpr ⟨fun z => by congr 1; omega, fun z => by injection z with z; omega⟩
theorem flat_oV : ∀ row : List (Option Nat), (row.map oV).all flatV = true
  | [] => rfl
  | o :: r => by
    rw [List.map_cons, List.all_cons, flat_oV r]
    cases o <;> rfl
theorem any_oV {row : List (Option Nat)} {b : Nat} : row.any (fun o => decide (o = some b)) = false ↔ ∀ a, row.getD a none ≠ some b := by
  rw [List.any_eq_false]
  constructor
  · intro h a e
    by_cases ha : a < row.length
    · exact h _ (getD_mem ha) (decide_eq_true e)
    · rw [List.getD_eq_getElem?_getD, List.getElem?_eq_none (by omega)] at e
      cases e
  · intro h o ho z
    obtain ⟨i, hi, rfl⟩ := List.getElem_of_mem ho
    refine h i ?_
    rw [getD_at hi]; exact of_decide_eq_true z
/-- all stays but what stands at p -/
def But (p : Addr) (H H' : Hp) : Prop := ∀ b o, H b = some o → b ≠ p → H' b = some o
theorem But.refl {p : Addr} {H : Hp} : But p H H := fun _ _ h _ => h
theorem But.of {p : Addr} {H H' : Hp} (s : Same H H') : But p H H' := fun _ _ h _ => s _ _ h
theorem But.trans {p : Addr} {H H1 H2 : Hp} (a : But p H H1) (b : But p H1 H2) : But p H H2 := fun c o h n => b c o (a c o h n) n
theorem But.new {p : Addr} {H H1 : Hp} {a : Addr} {o : HO} (s : But p H H1) (h : H1 a = none) : But p H (upd H1 a o) := fun b u e n => at_new (s b u e n) h
theorem But.mut {p : Addr} {H H1 : Hp} {a : Addr} {o : HO} (s : But p H H1) (h : H a = none) : But p H (upd H1 a o) := fun b u e n => by rw [upd_ne (ne_of_none e h)]; exact s b u e n
theorem But.own {p : Addr} {H H1 : Hp} {o : HO} (s : But p H H1) : But p H (upd H1 p o) := fun b u e n => by rw [upd_ne n]; exact s b u e n
theorem But.same {p : Addr} {H0 H H1 : Hp} (s : Same H0 H) (h0 : H0 p = none) (b : But p H H1) : Same H0 H1 := fun c o e => b c o (s c o e) (ne_of_none e h0)
theorem But.tk {p : Addr} {H H1 : Hp} {C dx : Addr} {fs : List (Str × V)} (b : But p H H1) (hp : H p = some (.ins C dx fs)) : TK H H1 := fun c ys e => b c _ e fun z => by rw [z, hp] at e; cases e
abbrev fF (m : Addr) (f : Nat) (c : Addr) (most looked : Nat) : List (Str × V) := putF "looked" (vN looked) (putF "most" (vN most) (putF "counters" (.ref c) (putF "first" (vN f) (putF "machine" (.ref m) []))))
structure FindC (K : PySem.W.Frag) (C : Addr) : Prop where
  cl : Cls K C
  ma : NoAttr K C "machine"
  fi : NoAttr K C "first"
  co : NoAttr K C "counters"
  mo : NoAttr K C "most"
  lo : NoAttr K C "looked"
/-- a begun witness and how many standings it tells of -/
def NodeP (H : Hp) (v : V) (n : Bgn × Nat) : Prop := ∃ q bt, v = .ref q ∧ H q = some (.tup [bt, vN n.2]) ∧ BTat H bt n.1
theorem NodeP.keep {H H' : Hp} {v : V} {n : Bgn × Nat} (h : NodeP H v n) (k : TK H H') : NodeP H' v n := let ⟨q, bt, e, x, y⟩ := h; ⟨q, bt, e, k _ _ x, y.keep k⟩
def Kid (D : Nat) (B : Bgn) (size many d a b : Nat) : Prop := b ≤ many ∧ b < size ∧ ∀ a', bval B d a' ≠ some b
/-- what is begun on from an open spot -/
structure Kids (T : List (List Nat)) (f : Nat) (R : Nat → Nat) (B : Bgn) (size many d a : Nat) (ns : List (Bgn × Nat)) : Prop where
  snd : ∀ n, n ∈ ns → ∃ b, Kid T.length B size many d a b ∧ n = (setB B d a b, max many (b + 1)) ∧ (FullB T f n.1 → NoClash T.length T f R n.1)
  cmp : ∀ b, Kid T.length B size many d a b → NoClash T.length T f R (setB B d a b) → (setB B d a b, max many (b + 1)) ∈ ns
section
variable {P : Program} {w : World} {K : PySem.W.Frag} {mg : Str → Option Value} {base : Heap} {CM CC CP CF : Addr}
abbrev sFInit : Stmt := inClass (topS 50) 0
abbrev sFOn : Stmt := inClass (topS 50) 1
abbrev sFFit : Stmt := inClass (topS 50) 2
def spFInit (CF : Addr) : Sp := fun vs H Q _ => ∃ (p dx m c : Addr) (f most : Nat), vs = [.ref p, .ref m, vN f, .ref c, vN most] ∧ H p = some (.ins CF dx []) ∧ ∀ H', But p H H' → H' p = some (.ins CF dx (fF m f c most 0)) → Q .non H'
theorem scFInit : FnScope ["self", "machine", "first", "counters", "most"] ["self", "machine", "first", "counters", "most"] (defScope sFInit) := ⟨rfl, rfl, rfl, by decide +kernel, rfl, by decide +kernel, by decide +kernel⟩
theorem ok_finit {f : Addr} {fd : FuncData} (F : Fun K "__init__" "Finder.__init__" sFInit f fd) (TF : FindC K CF) : FnOk P w K mg base CX0 1 f fd ["self", "machine", "first", "counters", "most"] (spFInit CF) := by
  refine F.ok scFInit (fun vs H Q E h => ?_) (fun cdv A outer s0 H vs Q E hr h => ?_)
  · obtain ⟨p, dx, m, c, f, most, rfl, _⟩ := h; rfl
  · obtain ⟨p, dx, m, c, f, most, rfl, hp, k⟩ := h
    refine ⟨_, pss_cons (ps_fld (pv 0) (pv 1) rfl) (pss_cons (ps_fld (pv 0) (pv 2) rfl) (pss_cons (ps_fld (pv 0) (pv 3) rfl) (pss_cons (ps_fld (pv 0) (pv 4) rfl) (pss_one (ps_fld (pv 0) pe_int rfl))))), ?_⟩
    refine ⟨_, rfl, _, rfl, p, CF, dx, _, rfl, hp, TF.cl, TF.ma, (by show 0 < 1000; decide), ?_⟩
    refine ⟨_, rfl, _, rfl, p, CF, dx, _, rfl, upd_same, TF.cl, TF.fi, (by have := len_putF "machine" (.ref m) []; show _ < 1000; simp at this; omega), ?_⟩
    refine ⟨_, rfl, _, rfl, p, CF, dx, _, rfl, upd_same, TF.cl, TF.co, (by have := len_putF "machine" (.ref m) []; have := len_putF "first" (vN f) (putF "machine" (.ref m) []); simp at *; omega), ?_⟩
    refine ⟨_, rfl, _, rfl, p, CF, dx, _, rfl, upd_same, TF.cl, TF.mo, (by have := len_putF "machine" (.ref m) []; have := len_putF "first" (vN f) (putF "machine" (.ref m) []); have := len_putF "counters" (.ref c) (putF "first" (vN f) (putF "machine" (.ref m) [])); simp at *; omega), ?_⟩
    refine ⟨_, rfl, p, CF, dx, _, rfl, upd_same, TF.cl, TF.lo, (by have := len_putF "machine" (.ref m) []; have := len_putF "first" (vN f) (putF "machine" (.ref m) []); have := len_putF "counters" (.ref c) (putF "first" (vN f) (putF "machine" (.ref m) [])); have := len_putF "most" (vN most) (putF "counters" (.ref c) (putF "first" (vN f) (putF "machine" (.ref m) []))); simp at *; omega), ?_⟩
    refine k _ ?_ upd_same
    rw [upd_upd, upd_upd, upd_upd, upd_upd]
    exact But.refl.own
def spFOn (CF CM CC : Addr) : Sp := fun vs H Q _ => ∃ (p dx m c : Addr) (bt : V) (H0 : Hp) (T : List (List Nat)) (n f size many most looked : Nat) (S R : List Nat) (B : Bgn), vs = [.ref p, bt, vN many, vN size] ∧ H p = some (.ins CF dx (fF m f c most looked)) ∧ Same H0 H ∧ H0 p = none ∧ MacAt CM H0 m T n ∧ CtrAt CC H0 c R ∧ Sys T n f S R ∧ BTat H bt B ∧ Bg T.length size many B ∧ size ≤ 3 ∧ looked + 3 ≤ most ∧
  ((∀ a, a < many → ∀ d, d < T.length → bval B d a ≠ none) → ∀ q H', But p H H' → H' p = some (.ins CF dx (fF m f c most looked)) → H q = none → H' q = some (.lst []) → Q (.ref q) H') ∧
  (∀ a d, a < many → d < T.length → bval B d a = none → ∀ q H' us ns looked', But p H H' → H' p = some (.ins CF dx (fF m f c most looked')) → looked' ≤ looked + 3 → H q = none → H' q = some (.lst us) → Paired (NodeP H') us ns → ns.length ≤ 3 → Kids T f (rd R) B size many d a ns → Q (.ref q) H')
theorem scFOn : FnScope ["self", "tables", "many", "size", "spot", "found", "standing", "after"] ["self", "tables", "many", "size"] (defScope sFOn) := ⟨rfl, rfl, rfl, by decide +kernel, rfl, by decide +kernel, by decide +kernel⟩
theorem ok_fon {f : Addr} {fd : FuncData} (F : Fun K "begun_on" "Finder.begun_on" sFOn f fd) (Z : Gls mg) (TF : FindC K CF) (cs : Cal P w K mg base "open_spot" 1 ["tables", "many"] spSpot) (ct : Cal P w K mg base "can_tell" 3 ["machine", "first", "counters", "tables"] (spTell CM CC)) (cw : Cal P w K mg base "with_step" 1 ["tables", "spot", "standing"] spStep) :
    FnOk P w K mg base CX0 4 f fd ["self", "tables", "many", "size"] (spFOn CF CM CC) := by
  refine F.ok scFOn (fun vs H Q E h => ?_) (fun cdv A outer s0 H vs Q E hr h => ?_)
  · obtain ⟨p, dx, m, c, bt, H0, T, n, f, size, many, most, looked, S, R, B, rfl, _⟩ := h; rfl
  · obtain ⟨p, dx, m, c, bt, H0, T, n, f, size, many, most, looked, S, R, B, rfl, hp, s0', p0, hM, hC, Y, hB, bg, hs3, hmost, k1, k2⟩ := h
    refine ⟨_, pss_cons (ps_set (i := 4) scFOn.nd rfl (Or.inl rfl) (pe_cal cs (hr.mono (by decide)) (by rfl) (pa_cons (pv 1) (pa_cons (pv 2) pa_nil))))
      (pss_cons (ps_if (pt_cmpR op_isN1 (pv 4) pe_non (nomark _)) (pss_one (ps_ret (pe_lst pa_nil))) pss_nil)
      (pss_cons (ps_set (i := 5) scFOn.nd rfl (Or.inl rfl) (pe_lst pa_nil))
      (pss_cons (ps_for PassesOwn.never rfl (pi_range1 (by rfl) Z.range (pa_cons (pe_callB (call_min2 rfl) (by rfl) Z.min (by decide +kernel) (pa_cons (pe_op op_add (pv 2) pe_int) (pa_cons (pv 3) pa_nil))) pa_nil)) (pg_name (i := 6) scFOn.nd rfl (Or.inl rfl))
        (pss_one (ps_if (pt_cmpR op_notIn_seq (pv 6) (pe_ix ix_tup (pv 1) (pe_ix ix_tup (pv 4) pe_int (fun _ _ => rfl)) (fun _ _ => rfl)) (by rfl))
          (pss_cons (ps_fldaug (pv 0) pe_int in_add)
          (pss_cons (ps_set (i := 7) scFOn.nd rfl (Or.inl rfl) (pe_cal cw (hr.mono (by decide)) (by rfl) (pa_cons (pv 1) (pa_cons (pv 4) (pa_cons (pv 6) pa_nil)))))
          (pss_one (ps_if (pt_val (pe_cal ct hr (by rfl) (pa_cons (pe_fld (pv 0) rfl) (pa_cons (pe_fld (pv 0) rfl) (pa_cons (pe_fld (pv 0) rfl) (pa_cons (pv 7) pa_nil))))))
            (pss_one (ps_expr (pe_bm PySem.F.plainAttrs_list PySem.F.slot_list_append PySem.F.type_list_append mt_append (pv 5) (pa_cons (pe_tup (pa_cons (pv 7) (pa_cons (pe_callB (call_max2 rfl) (by rfl) Z.max (by decide +kernel) (pa_cons (pv 2) (pa_cons (pe_op op_add (pv 6) pe_int) pa_nil))) pa_nil))) pa_nil))))
            pss_nil))))
          pss_nil)))
      (pss_cons (ps_if (pt_cmpR op_gt (pe_fld (pv 0) rfl) (pe_fld (pv 0) rfl) (nomark _)) pss_never pss_nil)
      (pss_one (ps_ret (pe_revL (pv 5)))))))), ?_⟩
    have lkm : ∀ k : Nat, (fF m f c most k).lookup ("machine" : Str) = some (.ref m) := fun k => lk1 (by decide +kernel) (lk1 (by decide +kernel) (lk1 (by decide +kernel) (lk1 (by decide +kernel) lk0)))
    have lkf : ∀ k : Nat, (fF m f c most k).lookup ("first" : Str) = some (vN f) := fun k => lk1 (by decide +kernel) (lk1 (by decide +kernel) (lk1 (by decide +kernel) lk0))
    have lkc : ∀ k : Nat, (fF m f c most k).lookup ("counters" : Str) = some (.ref c) := fun k => lk1 (by decide +kernel) (lk1 (by decide +kernel) lk0)
    have lko : ∀ k : Nat, (fF m f c most k).lookup ("most" : Str) = some (vN most) := fun k => lk1 (by decide +kernel) lk0
    have lkl : ∀ k : Nat, (fF m f c most k).lookup ("looked" : Str) = some (vN k) := fun k => lk0
    have lfF : ∀ k : Nat, (fF m f c most k).length < 1000 := fun k => by
      have a1 := len_putF "machine" (.ref m) []
      have a2 := len_putF "first" (vN f) (putF "machine" (.ref m) [])
      have a3 := len_putF "counters" (.ref c) (putF "first" (vN f) (putF "machine" (.ref m) []))
      have a4 := len_putF "most" (vN most) (putF "counters" (.ref c) (putF "first" (vN f) (putF "machine" (.ref m) [])))
      have a5 := len_putF "looked" (vN k) (putF "most" (vN most) (putF "counters" (.ref c) (putF "first" (vN f) (putF "machine" (.ref m) []))))
      simp at a1
      show (putF "looked" (vN k) (putF "most" (vN most) (putF "counters" (.ref c) (putF "first" (vN f) (putF "machine" (.ref m) []))))).length < 1000
      omega
    refine ⟨_, rfl, _, rfl, bt, B, T.length, size, many, rfl, hB, bg.len, bg.row, bg.le, by omega, fun hall H1 s1 => ?_, fun a d ha hd hn q H1 s1 hq => ?_⟩
    · refine ⟨_, rfl, rfl, _, rfl, iteT ⟨(by show 0 ≤ sizeLine; decide), fun q hq => ?_⟩⟩
      refine k1 hall q _ ((But.of s1).new hq) (at_new (s1 _ _ hp) hq) (s1.free hq) upd_same
    · have hne : V.ref q ≠ V.non := fun z => nomatch z
      refine ⟨_, rfl, rfl, ⟨_, rfl, ?_⟩⟩
      rw [decide_eq_false hne]
      refine iteF ⟨(by show 0 ≤ sizeLine; decide), fun fl hfl => ?_⟩
      have fl0 : H fl = none := s1.free hfl
      have b1 : But p H (upd H1 fl (.lst [])) := (But.of s1).new hfl
      obtain ⟨ba, bvs, rfl, hba, hrows⟩ := id hB
      obtain ⟨row, hrow⟩ : ∃ row, B[d]? = some row := ⟨_, List.getElem?_eq_getElem (by rw [bg.len]; exact hd)⟩
      obtain ⟨u, hu1, ⟨rl, rfl, hrl⟩⟩ := pget' hrows hrow
      have erow : B.getD d [] = row := by rw [List.getD_eq_getElem?_getD, hrow]; rfl
      have hrs : row.length = size := by rw [← erow]; exact bg.row d hd
      have npb : ba ≠ p := ne_of hba hp fun z => nomatch z
      have npr : rl ≠ p := ne_of hrl hp fun z => nomatch z
      have npq : q ≠ p := ne_of hq (s1 _ _ hp) fun z => nomatch z
      have nfl : fl ≠ p := (ne_of_none (s1 _ _ hp) hfl).symm
      have hq1 : upd H1 fl (.lst []) q = some (.tup [vN a, vN d]) := at_new hq hfl
      have hp1 : upd H1 fl (.lst []) p = some (.ins CF dx (fF m f c most looked)) := at_new (s1 _ _ hp) hfl
      have hf1 := upd_same (H := H1) (a := fl) (o := .lst [])
      generalize upd H1 fl (.lst []) = H2 at b1 hq1 hp1 hf1 ⊢
      have emin : (if (size : Int) < (many : Int) + 1 then (size : Int) else (many : Int) + 1) = ((min (many + 1) size : Nat) : Int) := by
        by_cases z : (size : Int) < (many : Int) + 1
        · rw [if_pos z]; omega
        · rw [if_neg z]; omega
      refine ⟨_, rfl, _, _, rfl, rfl, _, rfl, _, _, rfl, ?_⟩
      rw [emin]
      refine ⟨_, rfl, by omega, by omega, ?_⟩
      have dlt : d < B.length := by rw [bg.len]; exact hd
      have B4 := Y.tb.len4
      have arow : a < (B.getD d []).length := by rw [bg.row d hd]; exact Nat.lt_of_lt_of_le ha bg.le
      refine for_it walk_range (fun i σ H3 => ∃ (k : Nat) (us : List V) (ns : List (Bgn × Nat)) (x y : Option V), σ = [some (.ref p), some (.ref ba), some (vN many), some (vN size), some (.ref q), some (.ref fl), x, y] ∧ But p H H3 ∧ H3 p = some (.ins CF dx (fF m f c most (looked + k))) ∧ k ≤ i ∧ H3 fl = some (.lst us) ∧ H3 q = some (.tup [vN a, vN d]) ∧ Paired (NodeP H3) us ns ∧ ns.length ≤ i ∧
          (∀ n, n ∈ ns → ∃ b, Kid T.length B size many d a b ∧ n = (setB B d a b, max many (b + 1)) ∧ (FullB T f n.1 → NoClash T.length T f (rd R) n.1)) ∧ (∀ b, b < i → Kid T.length B size many d a b → NoClash T.length T f (rd R) (setB B d a b) → (setB B d a b, max many (b + 1)) ∈ ns))
        ⟨0, [], [], _, _, rfl, b1, hp1, Nat.le_refl _, hf1, hq1, .nil, Nat.le_refl _, (fun _ h => nomatch h), fun b hb => by omega⟩ (fun _ _ _ _ _ => True.intro) ?_ ?_
      · rintro i x σ H3 H3' hi ⟨kk, us, ns, x0, y0, rfl, b3, p3, kl, f3, q3, n3, l3, sn, cm⟩ ⟨rfl, ex⟩
        obtain rfl := yN ex
        have hi : i < (((min (many + 1) size : Nat) : Int)).toNat := hi
        rw [Int.toNat_natCast] at hi
        have him : i ≤ many := by omega
        have his : i < size := by omega
        have hix : atI bvs ((d : Nat) : Int) = some (.ref rl) := at_V hu1
        refine ⟨_, rfl, _, rfl, _, rfl, q, _, 1, vN d, rfl, rfl, .inl (.inl q3), rfl, ba, bvs, _, _, rfl, rfl, .inl (.inl (b3 _ _ hba npb)), hix, rl, _, rfl, .inr (.inl (.inl (b3 _ _ hrl npr))), rfl, flat_oV row, ?_⟩
        rw [inV_oV]
        refine ⟨_, rfl, ?_⟩
        by_cases hany : row.any (fun o => decide (o = some i)) = true
        · have nokid : ¬ Kid T.length B size many d a i := fun z => by
            have := any_oV.mpr fun a' => (show row.getD a' none ≠ some i from by
              have := z.2.2 a'
              unfold bval at this
              rw [erow] at this
              exact this)
            rw [this] at hany; cases hany
          rw [hany]
          refine iteF ⟨kk, us, ns, _, _, rfl, b3, p3, by omega, f3, q3, n3, by omega, sn, fun b hb kb nc => ?_⟩
          by_cases z : b = i
          · rw [z] at kb; exact absurd kb nokid
          · exact cm b (by omega) kb nc
        · have hany : row.any (fun o => decide (o = some i)) = false := by
            cases h : row.any (fun o => decide (o = some i)) with
            | true => exact absurd h hany
            | false => rfl
          have kid : Kid T.length B size many d a i := ⟨him, his, fun a' => by
            have := any_oV.mp hany a'
            unfold bval
            rw [erow]; exact this⟩
          rw [hany]
          refine iteT ⟨_, rfl, p, CF, dx, _, _, rfl, p3, TF.cl, TF.lo, lkl _, _, _, rfl, rfl, dx, _, p3, lfF _, ?_⟩
          rw [putF_putF]
          have el : (((looked + kk : Nat) : Int) + 1) = (((looked + (kk + 1) : Nat)) : Int) := by omega
          rw [el]
          have b4 : But p H (upd H3' p (.ins CF dx (fF m f c most (looked + (kk + 1))))) := b3.own
          have p4 := upd_same (H := H3') (a := p) (o := .ins CF dx (fF m f c most (looked + (kk + 1))))
          have k4 : TK H3' (upd H3' p (.ins CF dx (fF m f c most (looked + (kk + 1))))) := TK.mut p3 (fun _ z => nomatch z)
          have f4 : upd H3' p (.ins CF dx (fF m f c most (looked + (kk + 1)))) fl = some (.lst us) := by rw [upd_ne nfl]; exact f3
          have q4 := k4 _ _ q3
          have n4 := pmap n3 fun _ _ z => z.keep k4
          generalize upd H3' p (.ins CF dx (fF m f c most (looked + (kk + 1)))) = H4 at b4 p4 f4 q4 n4 ⊢
          have kH4 : TK H H4 := b4.tk hp
          refine ⟨_, rfl, _, rfl, _, rfl, .ref ba, q, B, d, a, i, rfl, hB.keep kH4, q4, dlt, by rw [bg.len]; omega, arow, by rw [bg.row d hd]; omega, fun v H5 s5 hv5 => ?_⟩
          have b5 : But p H H5 := b4.trans (But.of s5)
          have p5 := s5 _ _ p4
          have sH05 : Same H0 H5 := But.same s0' p0 b5
          have bgk := bg.set hd ha him his kid.2.2
          refine ⟨_, rfl, p, CF, dx, _, _, rfl, p5, TF.cl, TF.ma, lkm _, _, rfl, p, CF, dx, _, _, rfl, p5, TF.cl, TF.fi, lkf _, _, rfl, p, CF, dx, _, _, rfl, p5, TF.cl, TF.co, lkc _, _, rfl, ?_⟩
          refine ⟨m, c, v, T, n, f, size, max many (i + 1), S, R, setB B d a i, rfl, hM.keep sH05, hC.keep sH05, Y, hv5, bgk, by omega, fun bb H6 s6 h0 h1 => ?_⟩
          have b6 : But p H H6 := b5.trans (But.of s6)
          have s46 := s5.trans s6
          have n6 := pmap n4 fun _ _ z => z.keep (.of s46)
          refine ⟨_, rfl, ?_⟩
          cases bb with
          | false =>
            refine iteF ⟨kk + 1, us, ns, _, _, rfl, b6, s6 _ _ p5, by omega, s46 _ _ f4, s46 _ _ q4, n6, by omega, sn, fun b hb kb nc => ?_⟩
            by_cases z : b = i
            · rw [z] at nc; exact absurd nc (h0 rfl)
            · exact cm b (by omega) kb nc
          | true =>
            have f6 := s46 _ _ f4
            have emax : (if (i : Int) + 1 > (many : Int) then (i : Int) + 1 else (many : Int)) = ((max many (i + 1) : Nat) : Int) := by
              by_cases z : (i : Int) + 1 > (many : Int)
              · rw [if_pos z]; omega
              · rw [if_neg z]; omega
            refine iteT ⟨_, rfl, .inl ⟨rfl, _, .of f6⟩, _, rfl, _, rfl, _, rfl, _, _, rfl, rfl, _, _, rfl, (by show 2 ≤ sizeLine; decide), fun t ht => ?_⟩
            rw [emax] at *
            have f7 := at_new (o := .tup [v, vN (max many (i + 1))]) f6 ht
            have lus := plen n6
            refine ⟨fl, us, _, rfl, rfl, f7, small1000 (by omega), ?_⟩
            have kt := (TK.new (o := .tup [v, vN (max many (i + 1))]) ht).trans (TK.lst f7 (o := .lst (us ++ [V.ref t])))
            have nqf : q ≠ fl := ne_of (s46 _ _ q4) f6 fun z => nomatch z
            refine ⟨kk + 1, us ++ [V.ref t], ns ++ [(setB B d a i, max many (i + 1))], _, _, rfl, (b6.new ht).mut fl0, by rw [upd_ne nfl.symm]; exact at_new (s6 _ _ p5) ht, by omega, upd_same, by rw [upd_ne nqf]; exact at_new (s46 _ _ q4) ht, psnoc (pmap n6 fun _ _ z => z.keep kt) ⟨t, v, rfl, TK.lst f7 _ _ upd_same, (hv5.keep (.of s6)).keep kt⟩, by rw [List.length_append]; exact Nat.add_le_add_right l3 1, fun n hn => ?_, fun b hb kb nc => ?_⟩
            · obtain hn | hn := List.mem_append.mp hn
              · exact sn n hn
              · rw [List.eq_of_mem_singleton hn]
                exact ⟨i, kid, rfl, h1 rfl⟩
            · by_cases z : b = i
              · rw [z]; simp
              · exact List.mem_append_left _ (cm b (by omega) kb nc)
      · rintro σ H3 ⟨kk, us, ns, x0, y0, rfl, b3, p3, kl, f3, q3, n3, l3, sn, cm⟩
        have l3 : ns.length ≤ (((min (many + 1) size : Nat) : Int)).toNat := l3
        have kl : kk ≤ (((min (many + 1) size : Nat) : Int)).toNat := kl
        have cm : ∀ b, b < (((min (many + 1) size : Nat) : Int)).toNat → Kid T.length B size many d a b → NoClash T.length T f (rd R) (setB B d a b) → (setB B d a b, max many (b + 1)) ∈ ns := cm
        rw [Int.toNat_natCast] at l3 kl cm
        refine ⟨_, rfl, p, CF, dx, _, _, rfl, p3, TF.cl, TF.lo, lkl _, _, rfl, p, CF, dx, _, _, rfl, p3, TF.cl, TF.mo, lko _, _, _, rfl, rfl, _, rfl, ifF (by omega) ?_⟩
        refine ⟨_, rfl, fl, us, rfl, .of f3, fun r hr => ?_⟩
        have kr := TK.new (o := .lst us.reverse) hr
        have r0 : H r = none := by
          cases e : H r with
          | none => rfl
          | some o =>
            by_cases z : r = p
            · rw [z, p3] at hr; cases hr
            · rw [b3 _ _ e z] at hr; cases hr
        have prev : ∀ {us : List V} {ns : List (Bgn × Nat)} {H : Hp}, Paired (NodeP H) us ns → Paired (NodeP H) us.reverse ns.reverse := fun {us ns H} h => by
          induction h with
          | nil => exact .nil
          | cons r _ ih => rw [List.reverse_cons, List.reverse_cons]; exact psnoc ih r
        refine k2 a d ha hd hn r _ us.reverse ns.reverse (looked + kk) (b3.new hr) (at_new p3 hr) (by omega) r0 upd_same (pmap (prev n3) fun _ _ z => z.keep kr) (by rw [List.length_reverse]; omega) ⟨fun n hn => sn n (List.mem_reverse.mp hn), fun b kb nc => List.mem_reverse.mpr (cm b ?_ kb nc)⟩
        have := kb.1
        have := kb.2.1
        omega
end
end OWP

/-! ## W24 -/
/-! W24: the finder: what fits. -/
namespace OWP
open PySem PySem.Spec PyProof.Rows L2 OWR OW
/-- how many steps are open -/
def opn (D size : Nat) (B : Bgn) : Nat := ((List.range (D * size)).filter fun i => (bval B (i / size) (i % size)).isNone).length
theorem opn_le (D size : Nat) (B : Bgn) : opn D size B ≤ D * size := by
  have := List.length_filter_le (fun i => (bval B (i / size) (i % size)).isNone) (List.range (D * size))
  rw [List.length_range] at this
  exact this
theorem opn_set {D size many : Nat} {B : Bgn} (G : Bg D size many B) {d a b : Nat} (hd : d < D) (ha : a < many) (hn : bval B d a = none) : opn D size (setB B d a b) + 1 ≤ opn D size B := by
  have has : a < size := Nat.lt_of_lt_of_le ha G.le
  have h0 : 0 < size := by omega
  have hi : d * size + a < D * size := by
    have : (d + 1) * size ≤ D * size := Nat.mul_le_mul_right size hd
    rw [Nat.add_mul] at this; omega
  have ediv : (d * size + a) / size = d := by
    rw [Nat.mul_comm, Nat.mul_add_div h0, Nat.div_eq_of_lt has]; rfl
  have emod : (d * size + a) % size = a := by
    rw [Nat.mul_comm, Nat.mul_add_mod, Nat.mod_eq_of_lt has]
  have hd' : d < B.length := by rw [G.len]; exact hd
  have ha' : a < (B.getD d []).length := by rw [G.row d hd]; exact has
  have := nodup_sub (l := (d * size + a) :: (List.range (D * size)).filter fun i => (bval (setB B d a b) (i / size) (i % size)).isNone) (m := (List.range (D * size)).filter fun i => (bval B (i / size) (i % size)).isNone)
    (List.nodup_cons.mpr ⟨fun z => by
      have := (List.mem_filter.mp z).2
      rw [ediv, emod, bval_set hd' ha', if_pos ⟨rfl, rfl⟩] at this
      exact absurd this Bool.false_ne_true, List.nodup_range.filter _⟩) fun i hi2 => by
      obtain rfl | hi2 := List.mem_cons.mp hi2
      · exact List.mem_filter.mpr ⟨List.mem_range.mpr hi, by rw [ediv, emod, hn]; rfl⟩
      · obtain ⟨z1, z2⟩ := List.mem_filter.mp hi2
        refine List.mem_filter.mpr ⟨z1, ?_⟩
        rw [bval_set hd' ha'] at z2
        split at z2
        · cases z2
        · exact z2
  exact this
def wt : Nat → Nat
  | 0 => 1
  | k + 1 => 3 * wt k + 4
theorem wt_pos : ∀ k, 1 ≤ wt k
  | 0 => Nat.le_refl _
  | k + 1 => by show 1 ≤ 3 * wt k + 4; omega
theorem wt_mono : ∀ {j k : Nat}, j ≤ k → wt j ≤ wt k
  | j, 0, h => by rw [Nat.le_zero.mp h]; exact Nat.le_refl _
  | j, k + 1, h => by
    rcases Nat.lt_or_ge k j with z | z
    · rw [show j = k + 1 by omega]; exact Nat.le_refl _
    · have := wt_mono z
      show wt j ≤ 3 * wt k + 4; omega
def mass (D size : Nat) (ns : List (Bgn × Nat)) : Nat := (ns.map fun n => wt (opn D size n.1)).sum
theorem mass_app (D size : Nat) (a b : List (Bgn × Nat)) : mass D size (a ++ b) = mass D size a + mass D size b := by unfold mass; rw [List.map_append, List.sum_append]
theorem mass_len (D size : Nat) : ∀ ns : List (Bgn × Nat), ns.length ≤ mass D size ns
  | [] => Nat.zero_le _
  | n :: ns => by
    have := mass_len D size ns
    have := wt_pos (opn D size n.1)
    show ns.length + 1 ≤ (wt (opn D size n.1) :: ns.map fun n => wt (opn D size n.1)).sum
    rw [List.sum_cons]
    have e : mass D size ns = (ns.map fun n => wt (opn D size n.1)).sum := rfl
    omega
theorem mass_le (D size k : Nat) : ∀ {ns : List (Bgn × Nat)}, (∀ n, n ∈ ns → opn D size n.1 ≤ k) → mass D size ns ≤ ns.length * wt k
  | [], _ => Nat.zero_le _
  | n :: ns, h => by
    have h1 := mass_le D size k (ns := ns) fun n hn => h n (List.mem_cons_of_mem _ hn)
    have h2 := wt_mono (h n List.mem_cons_self)
    show (wt (opn D size n.1) :: ns.map fun n => wt (opn D size n.1)).sum ≤ (ns.length + 1) * wt k
    rw [List.sum_cons, Nat.add_mul]
    have e : mass D size ns = (ns.map fun n => wt (opn D size n.1)).sum := rfl
    omega
def B0 (D size : Nat) : Bgn := List.replicate D (List.replicate size none)
theorem b0_val (D size d a : Nat) : bval (B0 D size) d a = none := by
  unfold bval B0
  rw [List.getD_eq_getElem?_getD, List.getD_eq_getElem?_getD, List.getElem?_replicate]
  split
  · simp only [Option.getD_some]
    rw [List.getElem?_replicate]
    split <;> rfl
  · rfl
theorem b0_bg {D size : Nat} (h : 1 ≤ size) : Bg D size 1 (B0 D size) where
  len := List.length_replicate
  row := fun d hd => by unfold B0; rw [List.getD_eq_getElem?_getD, List.getElem?_replicate, if_pos hd]; exact List.length_replicate
  lt := fun d a b e => by rw [b0_val] at e; cases e
  at' := fun d a b e => by rw [b0_val] at e; cases e
  inj := fun d a a' b e => by rw [b0_val] at e; cases e
  pos := Nat.le_refl _
  le := h
theorem full_of {T : List (List Nat)} {f size many : Nat} {B : Bgn} (G : Bg T.length size many B) (h : ∀ a, a < many → ∀ d, d < T.length → bval B d a ≠ none) : FullB T f B := fun p hp d hd => h p.2 (dom_lt G hp) d hd
/-- a witness that tells, its standings that come Z -/
structure TW (T : List (List Nat)) (f : Nat) (R : Nat → Nat) (S : List Nat) (m : Nat) (W : List (List Nat)) (Z : List Nat) : Prop where
  wit : Wit T.length m W
  pos : 1 ≤ m
  le : m ≤ S.length
  tells : Tells T f R W
  z : IsZ T.length W Z
theorem b0_emb {T : List (List Nat)} {f size : Nat} {R : Nat → Nat} {S Z : List Nat} {m : Nat} {W : List (List Nat)} (h : TW T f R S m W Z) : Emb T.length W Z (B0 T.length size) 1 id where
  zero := rfl
  inj := fun a ha b hb _ => by omega
  inZ := fun a ha => by
    have : a = 0 := by omega
    subst this
    exact (h.z.2 0).mpr RchA.start
  told := fun d a b _ e => by rw [b0_val] at e; cases e
/-- what the search keeps of the begun witnesses that wait -/
structure SI (T : List (List Nat)) (f : Nat) (R : Nat → Nat) (S : List Nat) (size : Nat) (ns : List (Bgn × Nat)) : Prop where
  ok : ∀ n, n ∈ ns → Bg T.length size n.2 n.1 ∧ ((∀ a, a < n.2 → ∀ d, d < T.length → bval n.1 d a ≠ none) → NoClash T.length T f R n.1)
  cmp : ∀ m W Z, TW T f R S m W Z → Z.length = size → ∃ n, n ∈ ns ∧ ∃ π, Emb T.length W Z n.1 n.2 π
theorem SI.start {T : List (List Nat)} {f size : Nat} {R : Nat → Nat} {S : List Nat} (h1 : 1 ≤ size) (hD : 1 ≤ T.length) : SI T f R S size [(B0 T.length size, 1)] where
  ok := fun n hn => by
    rw [List.mem_singleton.mp hn]
    exact ⟨b0_bg h1, fun h => absurd (b0_val _ _ _ _) (h 0 (by show 0 < 1; decide) 0 hD)⟩
  cmp := fun m W Z tw _ => ⟨_, List.mem_singleton.mpr rfl, id, b0_emb tw⟩
theorem SI.whole {T : List (List Nat)} {f size many : Nat} {R : Nat → Nat} {S : List Nat} {B : Bgn} {ns : List (Bgn × Nat)} (s : SI T f R S size (ns ++ [(B, many)])) (all : ∀ a, a < many → ∀ d, d < T.length → bval B d a ≠ none) (h : many ≠ size) : SI T f R S size ns where
  ok := fun n hn => s.ok n (List.mem_append_left _ hn)
  cmp := fun m W Z tw hz => by
    obtain ⟨n, hn, π, e⟩ := s.cmp m W Z tw hz
    obtain hn | hn := List.mem_append.mp hn
    · exact ⟨n, hn, π, e⟩
    · rw [List.mem_singleton.mp hn] at e
      exact absurd (e.whole (s.ok _ (by simp)).1 tw.z hz all) h
theorem SI.kids {T : List (List Nat)} {f size many d a : Nat} {R : Nat → Nat} {S : List Nat} {B : Bgn} {ns ks : List (Bgn × Nat)} (M : Mach T f S) (s : SI T f R S size (ns ++ [(B, many)])) (ha : a < many) (hd : d < T.length) (hn : bval B d a = none) (k : Kids T f R B size many d a ks) : SI T f R S size (ns ++ ks) where
  ok := fun n hn' => by
    rcases List.mem_append.mp hn' with h | h
    · exact s.ok n (List.mem_append_left _ h)
    · obtain ⟨b, kb, rfl, hc⟩ := k.snd n h
      have g := (s.ok _ (List.mem_append_right _ (List.mem_singleton.mpr rfl))).1
      have g2 := g.set hd ha kb.1 kb.2.1 kb.2.2
      exact ⟨g2, fun all => hc (full_of g2 all)⟩
  cmp := fun m W Z tw hz => by
    obtain ⟨n, hn', π, e⟩ := s.cmp m W Z tw hz
    rcases List.mem_append.mp hn' with h | h
    · exact ⟨n, List.mem_append_left _ h, π, e⟩
    · rw [List.mem_singleton.mp h] at e
      have g := (s.ok _ (List.mem_append_right _ (List.mem_singleton.mpr rfl))).1
      obtain ⟨b, π', h1, h2, h3, e'⟩ := e.next g tw.wit tw.pos tw.z hz hd ha hn
      have nc := NoClash.of_tells M tw.wit tw.pos tw.le tw.tells (B := setB B d a b) e'.zero e'.told
      exact ⟨_, List.mem_append_right _ (k.cmp b ⟨h1, h2, h3⟩ nc), π', e'⟩
end OWP

/-! ## W25 -/
/-! W25: the finder: fitting. -/
namespace OWP
open PySem PySem.Spec PyProof.Rows L2 OWR OW
section
variable {P : Program} {w : World} {K : PySem.W.Frag} {mg : Str → Option Value} {base : Heap} {CM CC CP CF : Addr}
def spFit2 (CF CM CC : Addr) : Sp := fun vs H Q _ => ∃ (p dx m c : Addr) (H0 : Hp) (T : List (List Nat)) (n f size most looked : Nat) (S R : List Nat), vs = [.ref p, vN size] ∧ H p = some (.ins CF dx (fF m f c most looked)) ∧ Same H0 H ∧ H0 p = none ∧ MacAt CM H0 m T n ∧ CtrAt CC H0 c R ∧ Sys T n f S R ∧ 1 ≤ size ∧ size ≤ 3 ∧ 3000 ≤ most ∧
  (∀ v B H', But p H H' → BTat H' v B → Bg T.length size size B → Wit T.length size (vals B) → Tells T f (rd R) (vals B) → Q v H') ∧
  (∀ H' looked', But p H H' → H' p = some (.ins CF dx (fF m f c most looked')) → (∀ m W Z, TW T f (rd R) S m W Z → Z.length ≠ size) → Q .non H')
theorem scFit2 : FnScope ["self", "size", "waiting", "tables", "many"] ["self", "size"] (defScope sFFit) := ⟨rfl, rfl, rfl, by decide +kernel, rfl, by decide +kernel, by decide +kernel⟩
theorem ok_fit2 {f : Addr} {fd : FuncData} (F : Fun K "fitting" "Finder.fitting" sFFit f fd) (Z : Gls mg) (TF : FindC K CF) (TM : MacC K CM) (cs : Cal P w K mg base "open_spot" 1 ["tables", "many"] spSpot) (mo : Mth P w K mg base CF "begun_on" 4 ["self", "tables", "many", "size"] (spFOn CF CM CC)) :
    FnOk P w K mg base CX0 5 f fd ["self", "size"] (spFit2 CF CM CC) := by
  refine F.ok scFit2 (fun vs H Q E h => ?_) (fun cdv A outer s0 H vs Q E hr h => ?_)
  · obtain ⟨p, dx, m, c, H0, T, n, f, size, most, looked, S, R, rfl, _⟩ := h; rfl
  · obtain ⟨p, dx, m, c, H0, T, n, f, size, most, looked, S, R, rfl, hp, s0', p0, hM, hC, Y, h1, h3, hmost, k1, k2⟩ := h
    refine ⟨_, pss_cons (ps_fld (pv 0) pe_int rfl)
      (pss_cons (ps_set (i := 2) scFit2.nd rfl (Or.inl rfl) (pe_lst (pa_cons (pe_tup (pa_cons (pe_op op_repA (pe_tup (pa_cons (pe_op op_repA (pe_tup (pa_cons pe_non pa_nil)) (pv 1)) pa_nil)) (pe_fld (pe_fld (pv 0) rfl) rfl)) (pa_cons pe_int pa_nil))) pa_nil)))
      (pss_cons (ps_while PassesOwn.never (pt_cmpR op_gt (pe_callB call_len_seq (by rfl) Z.len (by decide +kernel) (pa_cons (pv 2) pa_nil)) pe_int (nomark _))
        (pss_cons (ps_asg (pe_bm0 PySem.F.plainAttrs_list PySem.F.slot_list_pop PySem.F.type_list_pop mt_pop (pv 2)) (pg_tup rfl (pgs_cons (pg_name (i := 3) scFit2.nd rfl (.inl rfl)) (pgs_cons (pg_name (i := 4) scFit2.nd rfl (.inl rfl)) pgs_nil))))
        (pss_cons (ps_if (PW.pt (pw_and (pt_cmpR op_eq (pv 4) (pv 1) (nomark _)) (pw_and1 (pt_cmpR op_isN1 (pe_cal cs (hr.mono (by decide)) (by rfl) (pa_cons (pv 3) (pa_cons (pv 4) pa_nil))) pe_non (nomark _))))) (pss_one (ps_ret (pv 3))) pss_nil)
        (pss_one (ps_expr (pe_bm PySem.F.plainAttrs_list PySem.F.slot_list_extend PySem.F.type_list_extend mt_extend (pv 2) (pa_cons (pe_mth (pv 0) TF.cl mo hr (pa_cons (pv 3) (pa_cons (pv 4) (pa_cons (pv 1) pa_nil)))) pa_nil)))))))
      (pss_one (ps_ret pe_non)))), ?_⟩
    obtain ⟨dm, tt, us0, hm, htt, hT⟩ := id hM
    have D1 := Y.tb.len1
    have D2 := Y.mach.len2
    have lfF : ∀ k : Nat, (fF m f c most k).length < 1000 := fun k => by
      have a1 := len_putF "machine" (.ref m) []
      have a2 := len_putF "first" (vN f) (putF "machine" (.ref m) [])
      have a3 := len_putF "counters" (.ref c) (putF "first" (vN f) (putF "machine" (.ref m) []))
      have a4 := len_putF "most" (vN most) (putF "counters" (.ref c) (putF "first" (vN f) (putF "machine" (.ref m) [])))
      have a5 := len_putF "looked" (vN k) (putF "most" (vN most) (putF "counters" (.ref c) (putF "first" (vN f) (putF "machine" (.ref m) []))))
      simp at a1
      show (putF "looked" (vN k) (putF "most" (vN most) (putF "counters" (.ref c) (putF "first" (vN f) (putF "machine" (.ref m) []))))).length < 1000
      omega
    refine ⟨_, rfl, p, CF, dx, _, rfl, hp, TF.cl, TF.lo, lfF _, ?_⟩
    rw [putF_putF]
    have e0 : HO.ins CF dx (putF "looked" (V.int 0) (putF "most" (vN most) (putF "counters" (.ref c) (putF "first" (vN f) (putF "machine" (.ref m) []))))) = .ins CF dx (fF m f c most 0) := rfl
    rw [e0]
    have b1 : But p H (upd H p (.ins CF dx (fF m f c most 0))) := But.refl.own
    have p1 := upd_same (H := H) (a := p) (o := .ins CF dx (fF m f c most 0))
    generalize upd H p (.ins CF dx (fF m f c most 0)) = H1 at b1 p1 ⊢
    have s1 : Same H0 H1 := But.same s0' p0 b1
    refine ⟨(by show 1 ≤ sizeLine; decide), fun a1 ha1 => ⟨_, rfl, a1, (size : Int), [V.non], rfl, rfl, upd_same, by simp, by omega, by omega, (by show 1 ≤ 1000; decide), fun a2 H2 s2 ha2 => ?_⟩⟩
    have s12 : Same H1 H2 := (Same.upd ha1).trans s2
    refine ⟨(by show 1 ≤ sizeLine; decide), fun a3 ha3 => ?_⟩
    have s13 := s12.new (o := .tup [V.ref a2]) ha3
    have p3 := s13 _ _ p1
    have m3 := (s1.trans s13) _ _ hm
    refine ⟨_, rfl, p, CF, dx, _, _, rfl, p3, TF.cl, TF.ma, lk1 (by decide +kernel) (lk1 (by decide +kernel) (lk1 (by decide +kernel) (lk1 (by decide +kernel) lk0))), m, CM, dm, _, _, rfl, m3, TM.cl, TM.dd, lk1 (by decide +kernel) lk0, ?_⟩
    refine ⟨a3, (T.length : Int), [V.ref a2], rfl, rfl, upd_same, by simp, by omega, by omega, (by show 1 ≤ 1000; decide), fun a4 H4 s4 ha4 => ?_⟩
    have s14 := s13.trans s4
    have h24 := s4 _ _ (at_new (o := .tup [V.ref a2]) ha2 ha3)
    refine ⟨(by show 2 ≤ sizeLine; decide), fun a5 ha5 => ⟨(by show 1 ≤ sizeLine; decide), fun wl hwl => ?_⟩⟩
    have er1 : (List.replicate ((size : Int).toNat) [V.non]).flatten = (List.replicate size none).map oV := by
      rw [Int.toNat_natCast, List.map_replicate]
      have : ∀ n, (List.replicate n [V.non]).flatten = List.replicate n V.non := fun n => by simp
      exact this size
    have er2 : (List.replicate ((T.length : Int).toNat) [V.ref a2]).flatten = List.replicate T.length (V.ref a2) := by
      rw [Int.toNat_natCast]; simp
    rw [er1] at h24
    rw [er2] at ha4
    have s15 := s14.new (o := .tup [V.ref a4, V.int 1]) ha5
    have bt0 : BTat H4 (.ref a4) (B0 T.length size) := ⟨a4, _, rfl, ha4, by
      have : ∀ n, Paired (fun u (row : List (Option Nat)) => ∃ b, u = V.ref b ∧ H4 b = some (HO.tup (row.map oV))) (List.replicate n (V.ref a2)) (List.replicate n (List.replicate size none)) := fun n => by
        induction n with
        | zero => exact .nil
        | succ n ih => exact .cons ⟨a2, rfl, h24⟩ ih
      exact this T.length⟩
    have s1w := s15.new (o := .lst [V.ref a5]) hwl
    have bw : But p H (upd (upd H4 a5 (.tup [V.ref a4, V.int 1])) wl (.lst [V.ref a5])) := b1.trans (But.of s1w)
    have pw := s1w _ _ p1
    have hw := upd_same (H := upd H4 a5 (.tup [V.ref a4, V.int 1])) (a := wl) (o := .lst [V.ref a5])
    have nwa : wl ≠ a5 := fun z => by rw [z, upd_same] at hwl; cases hwl
    have nd0 : Paired (NodeP (upd (upd H4 a5 (.tup [V.ref a4, V.int 1])) wl (.lst [V.ref a5]))) [V.ref a5] [(B0 T.length size, 1)] :=
      .cons ⟨a5, .ref a4, rfl, by rw [upd_ne nwa.symm, upd_same]; rfl, bt0.keep ((TK.new ha5).trans (TK.new hwl))⟩ .nil
    have wl1 : H1 wl = none := s15.free hwl
    have npw : p ≠ wl := ne_of_none p1 wl1
    generalize upd (upd H4 a5 (.tup [V.ref a4, V.int 1])) wl (.lst [V.ref a5]) = H5 at bw pw hw nd0 ⊢
    have wl0 : H wl = none := by
      cases e : H wl with
      | none => rfl
      | some o => rw [b1 _ _ e npw.symm] at wl1; cases wl1
    have m0 : mass T.length size [(B0 T.length size, 1)] ≤ 2185 := by
      have h1 := mass_le T.length size 6 (ns := [(B0 T.length size, 1)]) fun n hn => by
        have := opn_le T.length size n.1
        have : T.length * size ≤ 2 * 3 := Nat.mul_le_mul D2 h3
        omega
      have h2 : wt 6 = 2185 := by decide
      rw [h2] at h1
      exact h1
    refine ⟨fun mm σ H6 => ∃ (k : Nat) (us : List V) (ns : List (Bgn × Nat)) (x y : Option V), mm = mass T.length size ns ∧ σ = [some (.ref p), some (vN size), some (.ref wl), x, y] ∧ But p H H6 ∧ H6 p = some (.ins CF dx (fF m f c most k)) ∧ H6 wl = some (.lst us) ∧ Paired (NodeP H6) us ns ∧ k + mass T.length size ns ≤ 2185 ∧ SI T f (rd R) S size ns,
      ⟨_, 0, _, _, none, none, rfl, rfl, bw, pw, hw, nd0, by omega, SI.start h1 D1⟩, ?_⟩
    rintro mm σ H6 ⟨kk, us, ns, x, y, rfl, rfl, b6, p6, w6, n6, hk, si⟩
    refine ⟨_, rfl, wl, us, rfl, .inl (.of w6), _, _, rfl, rfl, _, rfl, ?_⟩
    refine ite2 (fun hpos => ?_) (fun hz => ?_)
    · have hl : 0 < us.length := by have := of_decide_eq_true hpos; omega
      obtain ⟨u, hu1, eu⟩ := last_of hl
      generalize hus : us.dropLast = us' at eu
      subst eu
      obtain ⟨ns', ⟨B, many⟩, rfl, n6', ⟨q, bt, rfl, hq, hbt⟩⟩ := psplit n6
      obtain ⟨bg, nc⟩ := si.ok (B, many) (by simp)
      have bg : Bg T.length size many B := bg
      have hq : H6 q = some (.tup [bt, vN many]) := hq
      have hbt : BTat H6 bt B := hbt
      refine ⟨fun σ2 H2 => ∃ (k : Nat) (us2 : List V) (ns2 : List (Bgn × Nat)) (x y : Option V), mass T.length size ns2 < mass T.length size (ns' ++ [(B, many)]) ∧ σ2 = [some (.ref p), some (vN size), some (.ref wl), x, y] ∧ But p H H2 ∧ H2 p = some (.ins CF dx (fF m f c most k)) ∧ H2 wl = some (.lst us2) ∧ Paired (NodeP H2) us2 ns2 ∧ k + mass T.length size ns2 ≤ 2185 ∧ SI T f (rd R) S size ns2,
        fun σ' H' ⟨k, us2, ns2, x2, y2, a1, a2⟩ => ⟨_, a1, k, us2, ns2, x2, y2, rfl, a2⟩, ?_⟩
      have hl3 : (us' ++ [V.ref q]).length = us'.length + 1 := by simp
      have edl : (us' ++ [V.ref q]).dropLast = us' := List.dropLast_concat
      refine ⟨_, rfl, .inl ⟨rfl, _, .of w6⟩, wl, _, V.ref q, rfl, rfl, w6, (by rw [hl3]; simp), ?_⟩
      rw [edl]
      have kW : TK H6 (upd H6 wl (.lst us')) := TK.lst w6
      have b7 : But p H (upd H6 wl (.lst us')) := b6.mut wl0
      have p7 : upd H6 wl (.lst us') p = some (.ins CF dx (fF m f c most kk)) := by rw [upd_ne npw]; exact p6
      have w7 := upd_same (H := H6) (a := wl) (o := .lst us')
      have q7 := kW _ _ hq
      have bt7 := hbt.keep kW
      have n7 := pmap n6' fun _ _ z => z.keep kW
      generalize upd H6 wl (.lst us') = H7 at b7 p7 w7 q7 bt7 n7 ⊢
      have s07 : Same H0 H7 := But.same s0' p0 b7
      have massE := mass_app T.length size ns' [(B, many)]
      have mass1 : mass T.length size [(B, many)] = wt (opn T.length size B) := by unfold mass; simp
      have massL := mass_len T.length size ns'
      have lus : us'.length = ns'.length := plen n7
      have wpos := wt_pos (opn T.length size B)
      refine ⟨q, _, rfl, .inl (.inl q7), rfl, _, _, rfl, _, _, rfl, rfl, ?_⟩
      -- what follows, whether or not all is told
      have next : ∀ {H8 : Hp}, Same H7 H8 → ¬ (many = size ∧ ∀ a, a < many → ∀ d, d < T.length → bval B d a ≠ none) → ∀ {D : Ends}, (∀ σ2 H2, (∃ (k : Nat) (us2 : List V) (ns2 : List (Bgn × Nat)) (x y : Option V), mass T.length size ns2 < mass T.length size (ns' ++ [(B, many)]) ∧ σ2 = [some (.ref p), some (vN size), some (.ref wl), x, y] ∧ But p H H2 ∧ H2 p = some (.ins CF dx (fF m f c most k)) ∧ H2 wl = some (.lst us2) ∧ Paired (NodeP H2) us2 ns2 ∧ k + mass T.length size ns2 ≤ 2185 ∧ SI T f (rd R) S size ns2) → D.nx σ2 H2) →
          tDrop (tBM K "list" rExtend (tVar 2) (tCons (tMeth CF "begun_on" (spFOn CF CM CC) [] L2.E0 (tVar 0) (tCons (tVar 3) (tCons (tVar 4) (tCons (tVar 1) tNil)))) tNil)) D [some (.ref p), some (vN size), some (.ref wl), some bt, some (vN many)] H8 := fun {H8} s8 hnot {D} fin => by
        have p8 := s8 _ _ p7
        have w8 := s8 _ _ w7
        have b8 := b7.trans (But.of s8)
        refine ⟨_, rfl, .inl ⟨rfl, _, .of w8⟩, _, rfl, p, dx, _, rfl, p8, (lk1 (by decide +kernel) (lk1 (by decide +kernel) (lk1 (by decide +kernel) (lk1 (by decide +kernel) (lk1 (by decide +kernel) rfl))))), _, rfl, _, rfl, _, rfl, ?_⟩
        refine ⟨p, dx, m, c, bt, H0, T, n, f, size, many, most, kk, S, R, B, rfl, p8, s07.trans s8, p0, hM, hC, Y, bt7.keep (.of s8), bg, h3, by omega, fun hall r H9 b9 p9 hr hr9 => ?_, fun a d ha hd hn r H9 us2 ns2 k2 b9 p9 hk2 hr hr9 n9 l9 kids => ?_⟩
        · have w9 := b9 _ _ w8 npw.symm
          have b09 := b8.trans b9
          have k79 := (TK.of s8).trans (b9.tk p8)
          refine ⟨wl, r, us', [], rfl, rfl, w9, hr9, Nat.le_of_lt (Nat.lt_of_le_of_lt (m := 3000) (by rw [List.length_nil]; omega) (by decide)), ?_⟩
          have kL := TK.lst w9 (o := .lst (us' ++ []))
          refine fin _ _ ⟨kk, us' ++ [], ns', _, _, by omega, rfl, b09.mut wl0, by rw [upd_ne npw]; exact p9, upd_same, ?_, by omega, si.whole hall fun z => hnot ⟨z, hall⟩⟩
          rw [List.append_nil]
          exact pmap n7 fun _ _ z => z.keep (k79.trans (by rw [List.append_nil] at kL; exact kL))
        · have w9 := b9 _ _ w8 npw.symm
          have b09 := b8.trans b9
          have k79 := (TK.of s8).trans (b9.tk p8)
          have lu2 := plen n9
          refine ⟨wl, r, us', us2, rfl, rfl, w9, hr9, Nat.le_of_lt (Nat.lt_of_le_of_lt (m := 3000) (by omega) (by decide)), ?_⟩
          have kL := TK.lst w9 (o := .lst (us' ++ us2))
          have hopn : ∃ j, opn T.length size B = j + 1 ∧ ∀ n, n ∈ ns2 → opn T.length size n.1 ≤ j := by
            have h0 := opn_set bg hd ha hn (b := 0)
            refine ⟨opn T.length size B - 1, by omega, fun n hn2 => ?_⟩
            obtain ⟨b, kb, rfl, _⟩ := kids.snd n hn2
            have := opn_set bg hd ha hn (b := b)
            show opn T.length size (setB B d a b) ≤ _
            omega
          obtain ⟨j, ej, hj⟩ := hopn
          have hm2 := mass_le T.length size j hj
          have hw1 : wt (opn T.length size B) = 3 * wt j + 4 := by rw [ej]; rfl
          have hm3 : ns2.length * wt j ≤ 3 * wt j := Nat.mul_le_mul_right _ l9
          have massE2 := mass_app T.length size ns' ns2
          exact fin _ _ ⟨k2, us' ++ us2, ns' ++ ns2, _, _, by omega, rfl, b09.mut wl0, by rw [upd_ne npw]; exact p9, upd_same, papp (pmap n7 fun _ _ z => z.keep (k79.trans kL)) (pmap n9 fun _ _ z => z.keep kL), by omega, si.kids Y.mach ha hd hn kids⟩
      refine ⟨_, rfl, _, rfl, rfl, ⟨_, rfl, ?_⟩⟩
      by_cases hms : many = size
      · refine ifT (by rw [hms]) ?_
        refine ⟨_, rfl, _, rfl, bt, B, T.length, size, many, rfl, bt7, bg.len, bg.row, bg.le, by omega, fun hall H8 s8 => ?_, fun a d ha hd hn r H8 s8 hr8 => ?_⟩
        · refine ⟨rfl, _, rfl, iteT ⟨_, rfl, ?_⟩⟩
          have bg' := hms ▸ bg
          have ha' : ∀ a, a < size → ∀ d, d < T.length → bval B d a ≠ none := fun a ha => hall a (by omega)
          exact k1 bt B H8 (b7.trans (But.of s8)) (bt7.keep (.of s8)) bg' (bg'.wit ha') (Tells.of_full (full_of bg hall) (nc hall))
        · refine ⟨rfl, _, rfl, iteF ?_⟩
          exact next s8 (fun z => z.2 a ha d hd hn) fun _ _ z => z
      · refine ifF (fun z => hms (by injection z with z; omega)) ?_
        exact iteF (next (Same.refl H7) (fun z => hms z.1) fun _ _ z => z)
    · have hU0 : us = [] := List.eq_nil_of_length_eq_zero (by
        have : ¬ (0 : Int) < (us.length : Int) := fun z => hz (decide_eq_true z)
        omega)
      subst hU0
      cases n6
      refine k2 H6 kk b6 p6 fun m' W Z tw hz => ?_
      obtain ⟨n, hn, _⟩ := si.cmp m' W Z tw hz
      cases hn
end
end OWP

/-! ## W26 -/
/-! W26: own tables. -/
namespace OWP
open PySem PySem.Spec PyProof.Rows L2 OWR OW
theorem inV_vN (b : Nat) : ∀ l : List Nat, inV (vN b) (l.map vN) = decide (b ∈ l)
  | [] => by simp [inV]
  | a :: l => by
    have ih := inV_vN b l
    unfold inV at ih ⊢
    rw [List.map_cons, List.any_cons, ih]
    show (decide ((a : Int) = (b : Int)) || decide (b ∈ l)) = decide (b ∈ a :: l)
    by_cases h : a = b
    · subst h; simp
    · have h1 : ¬ (a : Int) = (b : Int) := by omega
      have h2 : ¬ b = a := fun z => h z.symm
      simp [h1, h2]
theorem flat_vN (l : List Nat) : (l.map vN).all flatV = true := by
  rw [List.all_eq_true]
  intro x hx
  obtain ⟨n, _, rfl⟩ := List.mem_map.mp hx
  rfl
/-- what the walk over the order keeps -/
structure OI (T : List (List Nat)) (f n : Nat) (F : List Nat) (at' i : Nat) : Prop where
  nd : F.Nodup
  first : f ∈ F
  rch : ∀ x, x ∈ F → RchA (actT T) T.length f x
  lt : ∀ x, x ∈ F → x < n
  cl : ∀ j, j < at' → ∀ d, d < T.length → actT T d (F.getD j 0) ∈ F
  ci : ∀ d, d < i → actT T d (F.getD at' 0) ∈ F
theorem OI.len {T : List (List Nat)} {f n : Nat} {F : List Nat} {at' i : Nat} (o : OI T f n F at' i) : F.length ≤ n := by
  have := nodup_sub o.nd (m := List.range n) fun x hx => List.mem_range.mpr (o.lt x hx)
  rwa [List.length_range] at this
theorem OI.old {T : List (List Nat)} {f n : Nat} {F : List Nat} {at' i : Nat} (o : OI T f n F at' i) (h : actT T i (F.getD at' 0) ∈ F) : OI T f n F at' (i + 1) := ⟨o.nd, o.first, o.rch, o.lt, o.cl, fun d hd => by
  by_cases z : d = i
  · rw [z]; exact h
  · exact o.ci d (by omega)⟩
theorem getD_app {α : Type} {l m : List α} {i : Nat} {x : α} (h : i < l.length) : (l ++ m).getD i x = l.getD i x := by
  rw [List.getD_eq_getElem?_getD, List.getD_eq_getElem?_getD, List.getElem?_append_left h]
theorem OI.add {T : List (List Nat)} {f n : Nat} {F : List Nat} {at' i : Nat} (tb : Tabs T n) (o : OI T f n F at' i) (ha : at' < F.length) (hi : i < T.length) (h : actT T i (F.getD at' 0) ∉ F) : OI T f n (F ++ [actT T i (F.getD at' 0)]) at' (i + 1) where
  nd := List.nodup_append.mpr ⟨o.nd, by simp, fun a ha b hb => by simp at hb; subst hb; exact fun z => h (z ▸ ha)⟩
  first := List.mem_append_left _ o.first
  rch := fun x hx => by
    obtain q | q := List.mem_append.mp hx
    · exact o.rch x q
    · rw [List.mem_singleton.mp q]; exact (o.rch _ (getD_mem ha)).step hi
  lt := fun x hx => by
    obtain q | q := List.mem_append.mp hx
    · exact o.lt x q
    · rw [List.mem_singleton.mp q]; exact tb.act hi (o.lt _ (getD_mem ha))
  cl := fun j hj d hd => by
    rw [getD_app (by omega)]
    exact List.mem_append_left _ (o.cl j hj d hd)
  ci := fun d hd => by
    rw [getD_app ha]
    by_cases z : d = i
    · rw [z]; simp
    · exact List.mem_append_left _ (o.ci d (by omega))
theorem OI.next {T : List (List Nat)} {f n : Nat} {F : List Nat} {at' : Nat} (o : OI T f n F at' T.length) : OI T f n F (at' + 1) 0 := ⟨o.nd, o.first, o.rch, o.lt, fun j hj d hd => by
    by_cases z : j = at'
    · rw [z]; exact o.ci d hd
    · exact o.cl j (by omega) d hd, fun d hd => by omega⟩
theorem OI.all {T : List (List Nat)} {f n : Nat} {F : List Nat} {at' : Nat} (o : OI T f n F at' 0) (h : F.length ≤ at') : (∀ x, x ∈ F → ∀ d, d < T.length → actT T d x ∈ F) ∧ ∀ x, x ∈ F ↔ RchA (actT T) T.length f x := by
  have cl : ∀ x, x ∈ F → ∀ d, d < T.length → actT T d x ∈ F := fun x hx d hd => by
    obtain ⟨j, hj, e⟩ := List.getElem_of_mem hx
    have := o.cl j (by omega) d hd
    rw [getD_at hj, e] at this
    exact this
  refine ⟨cl, fun x => ⟨o.rch x, fun ⟨u, hu, e⟩ => ?_⟩⟩
  have go : ∀ (u : List Nat) (y : Nat), Wd T.length u → y ∈ F → runA (actT T) u y ∈ F := by
    intro u
    induction u with
    | nil => intro y _ hy; exact hy
    | cons d u ih => intro y hu hy; exact ih _ hu.tail (cl y hy d hu.head)
  rw [← e]; exact go u f hu o.first
theorem mt_indexK {X : Cx} {K : PySem.W.Frag} (hK : X.K = K) : MtR X "list.index" (rIndex K) := by subst hK; exact mt_index
section
variable {P : Program} {w : World} {K : PySem.W.Frag} {mg : Str → Option Value} {base : Heap} {CM CC CP CF : Addr}
/-- tables whose first is of so many standings -/
def WitV (H : Hp) (v : V) (k : Nat) : Prop := ∃ q us b xs, v = .ref q ∧ H q = some (.tup us) ∧ us[0]? = some (.ref b) ∧ H b = some (.tup xs) ∧ xs.length = k
def spOwn (CM : Addr) : Sp := fun vs H Q _ => ∃ (m : Addr) (T : List (List Nat)) (n f : Nat) (S : List Nat), vs = [.ref m, vN f] ∧ MacAt CM H m T n ∧ Tabs T n ∧ f < n ∧ Mach T f S ∧ ∀ v H', Same H H' → WitV H' v S.length → Q v H'
theorem scOwn : FnScope ["machine", "first", "order", "at", "table", "state"] ["machine", "first"] (defScope (topS 51)) := ⟨rfl, rfl, rfl, by decide +kernel, rfl, by decide +kernel, by decide +kernel⟩
theorem ok_own {f : Addr} {fd : FuncData} (F : Fun K "own_tables" "own_tables" (topS 51) f fd) (Z : Gls mg) (TM : MacC K CM) : FnOk P w K mg base CX0 1 f fd ["machine", "first"] (spOwn CM) := by
  refine F.ok scOwn (fun vs H Q E h => ?_) (fun cdv A outer s0 H vs Q E hr h => ?_)
  · obtain ⟨m, T, n, f, S, rfl, _⟩ := h; rfl
  · obtain ⟨m, T, n, f, S, rfl, hM, tb, hf, M, k⟩ := h
    obtain ⟨dx, tt, us, hm, htt, hT⟩ := id hM
    have hlen : us.length = T.length := plen hT
    refine ⟨_, pss_cons (ps_set (i := 2) scOwn.nd rfl (Or.inr rfl) (pe_lst (pa_cons (pv 1) pa_nil)))
      (pss_cons (ps_set (i := 3) scOwn.nd rfl (Or.inl rfl) pe_int)
      (pss_cons (ps_while PassesOwn.never (pt_cmpR op_lt (pv 3) (pe_callB call_len_seq (by rfl) Z.len (by decide +kernel) (pa_cons (pv 2) pa_nil)) (nomark _))
        (pss_cons (ps_for PassesOwn.never rfl (pi_tup (pe_fld (pv 0) rfl)) (pg_name (i := 4) scOwn.nd rfl (Or.inl rfl))
          (pss_one (ps_if (pt_cmpR op_notIn_seq (pe_ix ix_tup (pv 4) (pe_ix ix_list (pv 2) (pv 3) (fun _ _ => rfl)) (fun _ _ => rfl)) (pv 2) (by rfl))
            (pss_one (ps_expr (pe_bm PySem.F.plainAttrs_list PySem.F.slot_list_append PySem.F.type_list_append mt_append (pv 2) (pa_cons (pe_ix ix_tup (pv 4) (pe_ix ix_list (pv 2) (pv 3) (fun _ _ => rfl)) (fun _ _ => rfl)) pa_nil)))) pss_nil)))
        (pss_one (ps_aug (i := 3) scOwn.nd rfl (Or.inl rfl) pe_int ip_add))))
      (pss_one (ps_ret (pe_callTy call_tuple_of (by rfl) Z.tuple (by decide +kernel) (pa_cons
        (pe_lc (own := [("table", 4)]) (g := gName 4) (tt := tYes) (te := tCB (rTupOf K) (tCons (tLc (iList K (tVar 2)) (gName 5) tYes (tBM K "list" (rIndex K) (tVar 2) (tCons (tOp (rIxT K) (tVar 4) (tVar 5)) tNil)) [5]) tNil)) rfl scOwn.nd (pi_tup (pe_fld (pv 0) rfl)) (blkOk_by (N := ["machine", "first", "order", "at", "table", "state"]) (sc := defScope (topS 51)) (by decide +kernel))
          (fun _ _ _ _ _ => pg_name (i := 4) scOwn.nd rfl (Or.inr rfl)) (fun _ _ _ _ _ => pts_nil)
          (fun _ _ _ _ _ => pe_callTy (T := "tuple") (r := rTupOf K) (ct_tuple rfl) (by rfl) Z.tuple (by decide +kernel) (pa_cons
            (pe_lc (own := [("state", 5)]) rfl scOwn.nd (pi_list (pv 2)) (blkOk_by (N := ["machine", "first", "order", "at", "table", "state"]) (sc := relab (retScope (topS 51) 3) (defScope (topS 51))) (by decide +kernel))
              (fun _ _ _ _ _ => pg_name (i := 5) scOwn.nd rfl (Or.inl rfl)) (fun _ _ _ _ _ => pts_nil)
              (fun _ _ _ _ _ => pe_bm PySem.F.plainAttrs_list PySem.F.slot_list_index PySem.F.type_list_index (mt_indexK rfl) (pv 2) (pa_cons (pe_ix (ix_tupK rfl) (pv 4) (pv 5) (fun _ _ => rfl)) pa_nil))) pa_nil))) pa_nil)))))), ?_⟩
    refine ⟨_, rfl, (by show 1 ≤ sizeLine; decide), fun ol hol => ?_⟩
    have s1 : Same H (upd H ol (.lst [vN f])) := Same.upd hol
    have o1 := upd_same (H := H) (a := ol) (o := .lst [vN f])
    generalize upd H ol (.lst [vN f]) = H1 at s1 o1 ⊢
    refine ⟨fun mm σ H2 => ∃ (at' : Nat) (F : List Nat) (x : Option V), mm = n - at' ∧ at' ≤ F.length ∧ σ = [some (.ref m), some (vN f), some (.ref ol), some (vN at'), x, none] ∧ Same H H2 ∧ H2 ol = some (.lst (F.map vN)) ∧ OI T f n F at' 0,
      ⟨_, 0, [f], none, rfl, Nat.zero_le _, rfl, s1, o1, ⟨by simp, by simp, fun x hx => by simp at hx; subst hx; exact RchA.start, fun x hx => by simp at hx; subst hx; exact hf, fun j hj => by omega, fun d hd => by omega⟩⟩, ?_⟩
    rintro mm σ H2 ⟨at', F, x, rfl, hle, rfl, s2, o2, oi⟩
    have lF := oi.len
    have n8 := tb.n8
    refine ⟨_, rfl, _, rfl, ol, _, rfl, .inl (.of o2), _, _, rfl, rfl, _, rfl, ?_⟩
    refine ite2 (fun hpos => ?_) (fun hz => ?_)
    · have hlt : at' < F.length := by have := of_decide_eq_true hpos; rw [List.length_map] at this; omega
      have sel := oi.lt _ (getD_mem (x := 0) hlt)
      refine ⟨fun σ2 H3 => ∃ (F2 : List Nat) (x : Option V), at' + 1 ≤ F2.length ∧ σ2 = [some (.ref m), some (vN f), some (.ref ol), some (vN (at' + 1)), x, none] ∧ Same H H3 ∧ H3 ol = some (.lst (F2.map vN)) ∧ OI T f n F2 (at' + 1) 0,
        fun σ' H' ⟨F2, x2, a1, a2, a3, a4, a5⟩ => ⟨n - (at' + 1), by omega, at' + 1, F2, x2, rfl, a1, a2, a3, a4, a5⟩, ?_⟩
      refine ⟨_, rfl, m, CM, dx, _, _, rfl, s2 _ _ hm, TM.cl, TM.tb, lk1 (by decide +kernel) (lk1 (by decide +kernel) lk0), tt, rfl, ⟨us, .inl (.inl (s2 _ _ htt))⟩, ?_⟩
      refine for_tup (K := K) (a := tt) (xs := us) (fun i σ2 H3 => ∃ (F2 : List Nat) (x : Option V), at' < F2.length ∧ σ2 = [some (.ref m), some (vN f), some (.ref ol), some (vN at'), x, none] ∧ Same H H3 ∧ H3 ol = some (.lst (F2.map vN)) ∧ OI T f n F2 at' i)
        ⟨F, _, hlt, rfl, s2, o2, oi⟩ (fun i σ H3 _ ⟨_, _, _, _, z, _⟩ => .inl (.inl (z _ _ htt))) ?_ ?_
      · rintro i u σ2 H3 hu ⟨F2, x2, hl2, rfl, s3, o3, oi3⟩
        obtain ⟨l, hl, ⟨b, rfl, hb⟩⟩ := pget hT hu
        have hi : i < T.length := (List.getElem?_eq_some_iff.mp hl).1
        have hln : l.length = n := (tb.row l (List.mem_of_getElem? hl)).1
        have sel2 := oi3.lt _ (getD_mem (x := 0) hl2)
        have eact : atI (l.map vN) ((F2.getD at' 0 : Nat) : Int) = some (vN (actT T i (F2.getD at' 0))) := by
          have : l.getD (F2.getD at' 0) 0 = actT T i (F2.getD at' 0) := by unfold actT; rw [List.getD_eq_getElem?_getD (l := T), hl]; rfl
          rw [← this]; exact at_vN (by omega)
        have lF2 := oi3.len
        refine ⟨_, rfl, _, rfl, _, rfl, ol, _, _, _, rfl, rfl, .of o3, at_vN hl2, b, _, _, _, rfl, rfl, .inl (.inl (s3 _ _ hb)), eact, _, rfl, ol, _, rfl, .inl (.of o3), rfl, flat_vN _, ?_⟩
        rw [inV_vN]
        refine ⟨_, rfl, ?_⟩
        by_cases hin : actT T i (F2.getD at' 0) ∈ F2
        · rw [decide_eq_true hin]
          exact iteF ⟨F2, _, hl2, rfl, s3, o3, oi3.old hin⟩
        · rw [decide_eq_false hin]
          refine iteT ⟨_, rfl, .inl ⟨rfl, _, .of o3⟩, _, rfl, _, rfl, _, rfl, ol, _, _, _, rfl, rfl, .of o3, at_vN hl2, b, _, _, _, rfl, rfl, .inl (.inl (s3 _ _ hb)), eact, ol, _, _, rfl, rfl, o3, by rw [List.length_map]; exact small1000 (by omega), ?_⟩
          exact ⟨F2 ++ [actT T i (F2.getD at' 0)], _, by rw [List.length_append]; omega, rfl, s3.mut hol, by rw [upd_same, List.map_append]; rfl, oi3.add tb hl2 hi hin⟩
      · rintro σ2 H3 ⟨F2, x2, hl2, rfl, s3, o3, oi3⟩
        rw [hlen] at oi3
        exact ⟨_, rfl, _, _, rfl, rfl, F2, x2, hl2, rfl, s3, o3, oi3.next⟩
    · have hge : F.length ≤ at' := by
        have : ¬ ((at' : Int) < ((F.map vN).length : Int)) := fun z => hz (decide_eq_true z)
        rw [List.length_map] at this; omega
      obtain ⟨cl, mem⟩ := oi.all hge
      obtain ⟨_, lFS⟩ := M.other oi.nd mem
      refine ⟨_, rfl, m, CM, dx, _, _, rfl, s2 _ _ hm, TM.cl, TM.tb, lk1 (by decide +kernel) (lk1 (by decide +kernel) lk0), tt, rfl, ⟨us, .inl (.inl (s2 _ _ htt))⟩, fun L hL => ?_⟩
      refine lc_tup (K := K) (a := tt) (xs := us) (fun i H3 => Same H2 H3 ∧ ∃ ws, H3 L = some (.lst ws) ∧ ws.length = i ∧ ∀ w, w ∈ ws → ∃ b xs, w = V.ref b ∧ H3 b = some (.tup xs) ∧ xs.length = F.length) ⟨Same.upd hL, [], upd_same, rfl, fun _ h => nomatch h⟩ (fun i H3 _ z => .inl (.inl (z.1 _ _ (s2 _ _ htt)))) ?_ ?_
      · rintro i u H3 hu ⟨s3, ws, e1, e2, e3⟩
        obtain ⟨l, hl, ⟨b, rfl, hb⟩⟩ := pget hT hu
        have hi : i < T.length := (List.getElem?_eq_some_iff.mp hl).1
        have hln : l.length = n := (tb.row l (List.mem_of_getElem? hl)).1
        have o3 := s3 _ _ o2
        have hb3 := s3 _ _ (s2 _ _ hb)
        refine ⟨rfl, yes ⟨_, rfl, ol, rfl, ⟨_, .of o3⟩, fun L2 hL2 => ?_⟩⟩
        have nLL : L ≠ L2 := ne_of_none e1 hL2
        refine lc_list (K := K) (a := ol) (xs := F.map vN) (fun j H4 => Same H3 H4 ∧ ∃ zs, H4 L2 = some (.lst zs) ∧ zs.length = j) ⟨Same.upd hL2, [], upd_same, rfl⟩ (fun j H4 _ z => .of (z.1 _ _ o3)) ?_ ?_
        · rintro j x H4 hx ⟨s4, zs, g1, g2⟩
          obtain ⟨st, hst, rfl⟩ := map_vN_get hx
          have hsF := List.mem_of_getElem? hst
          have hsn := oi.lt st hsF
          have eact : atI (l.map vN) ((st : Nat) : Int) = some (vN (actT T i st)) := by
            have : l.getD st 0 = actT T i st := by unfold actT; rw [List.getD_eq_getElem?_getD (l := T), hl]; rfl
            rw [← this]; exact at_vN (by omega)
          obtain ⟨q, hq, eq⟩ := List.getElem_of_mem (cl st hsF i hi)
          have eqv : ∀ a b : Nat, eqV (vN a) (vN b) = decide (a = b) := fun a b => by
            show decide ((a : Int) = (b : Int)) = decide (a = b)
            exact decide_eq_decide.mpr ⟨fun z => by omega, fun z => by omega⟩
          have hjl : j < F.length := (List.getElem?_eq_some_iff.mp hst).1
          refine ⟨rfl, yes ⟨_, rfl, .inl ⟨rfl, _, .of (s4 _ _ o3)⟩, _, rfl, _, rfl, b, _, _, _, rfl, rfl, .inl (.inl (s4 _ _ hb3)), eact, ?_⟩⟩
          refine ⟨ol, F.map vN, vN (actT T i st), q, vN (actT T i st), rfl, rfl, .of (s4 _ _ o3), rfl, flat_vN F, by rw [List.getElem?_map, List.getElem?_eq_getElem hq, eq]; rfl, by rw [eqv]; simp, fun k z hk hz => ?_, ?_⟩
          · obtain ⟨y, hy, rfl⟩ := map_vN_get hz
            rw [eqv]
            refine decide_eq_false fun e => ?_
            rw [e] at hy
            have := nd_ix oi.nd hy (show F[q]? = some (actT T i st) by rw [List.getElem?_eq_getElem hq, eq])
            omega
          · exact ⟨zs, g1, small1000 (by omega), s4.mut hL2, zs ++ [vN q], upd_same, by rw [List.length_append, g2]; rfl⟩
        · rintro H4 ⟨s4, zs, g1, g2⟩
          rw [List.length_map] at g2
          refine ⟨L2, zs, rfl, .inl ⟨.of g1, fun tb2 htb2 => ?_⟩⟩
          have e1' := at_new (o := .tup zs) (s4 _ _ e1) htb2
          have nLt : L ≠ tb2 := ne_of_none (s4 _ _ e1) htb2
          refine ⟨ws, e1', small1000 (by have := tb.len4; omega), ((s3.trans s4).new htb2).mut hL, ws ++ [V.ref tb2], upd_same, by rw [List.length_append, e2]; rfl, fun w hw => ?_⟩
          obtain hw | hw := List.mem_append.mp hw
          · obtain ⟨b', xs, z1, z2, z3⟩ := e3 w hw
            have nb : b' ≠ L := ne_of z2 e1 fun z => nomatch z
            exact ⟨b', xs, z1, by rw [upd_ne nb]; exact at_new (s4 _ _ z2) htb2, z3⟩
          · rw [List.eq_of_mem_singleton hw]
            exact ⟨tb2, zs, rfl, by rw [upd_ne nLt.symm, upd_same], g2⟩
      · rintro H3 ⟨s3, ws, e1, e2, e3⟩
        refine ⟨L, ws, rfl, .inl ⟨.of e1, fun q hq => ?_⟩⟩
        have D1 := tb.len1
        have h0 : ws[0]? = some (ws[0]'(by omega)) := List.getElem?_eq_getElem _
        obtain ⟨b, xs, z1, z2, z3⟩ := e3 _ (List.mem_of_getElem? h0)
        rw [z1] at h0
        exact k (.ref q) _ ((s2.trans s3).new hq) ⟨q, ws, b, xs, rfl, upd_same, h0, at_new z2 hq, by rw [z3, lFS]⟩
end
end OWP

/-! ## W27 -/
/-! W27: the least witness; the fewest standings. -/
namespace OWP
open PySem PySem.Spec PyProof.Rows L2 OWR OW
theorem exists_Z {T : List (List Nat)} {m : Nat} {W : List (List Nat)} (hW : Wit T.length m W) (hm : 1 ≤ m) : ∃ Z, IsZ T.length W Z ∧ Z.length ≤ m := by
  classical
  refine ⟨(List.range m).filter fun a => decide (RchA (actT W) T.length 0 a), ⟨List.nodup_range.filter _, fun a => ?_⟩, ?_⟩
  · rw [List.mem_filter]
    exact ⟨fun h => of_decide_eq_true h.2, fun h => ⟨List.mem_range.mpr (hW.rch hm h), decide_eq_true h⟩⟩
  · have := List.length_filter_le (fun a => decide (RchA (actT W) T.length 0 a)) (List.range m)
    rwa [List.length_range] at this
/-- no witness of fewer standings tells -/
theorem none_of {T : List (List Nat)} {f : Nat} {S R lot : List Nat} (M : Mach T f S) {b size : Nat} (hb : b ∈ lot) (nd : lot.Nodup) (hS : ∀ s, s ∈ lot → s ∈ S) (eq : ∀ s, s ∈ lot → ∀ t, t ∈ lot → EqvA (actT T) T.length (rd R) f s t) (hle : size ≤ S.length)
    (no : ∀ k, lot.length ≤ k → k < size → ∀ m W Z, TW T f (rd R) S m W Z → Z.length ≠ k) : ∀ k W, 1 ≤ k → k < size → Wit T.length k W → ¬ Tells T f (rd R) W := fun k W hk hks hW ht => by
  obtain ⟨Z, hZ, hl⟩ := exists_Z hW hk
  have tw : TW T f (rd R) S k W Z := ⟨hW, hk, by omega, ht, hZ⟩
  have := fold_le M ht nd ((M.mem b).mp (hS b hb)) (fun s hs => eq b hb s hs) fun a ha => (hZ.2 a).mpr ha
  exact no Z.length this (by omega) k W Z tw rfl
theorem BTat.wit {H : Hp} {v : V} {B : Bgn} {D size many : Nat} (h : BTat H v B) (g : Bg D size many B) (hD : 1 ≤ D) : WitV H v size := by
  obtain ⟨a, vs, rfl, ha, hp⟩ := h
  have h0 : B[0]? = some (B[0]'(by rw [g.len]; omega)) := List.getElem?_eq_getElem _
  obtain ⟨u, hu, ⟨b, rfl, hb⟩⟩ := pget' hp h0
  have := g.row 0 hD
  rw [List.getD_eq_getElem?_getD, h0] at this
  exact ⟨a, vs, b, _, rfl, ha, hu, hb, by rw [List.length_map]; exact this⟩
abbrev psM : List Str := ["machine", "first", "counters", "most"]
structure CalM (P : Program) (w : World) (K : PySem.W.Frag) (mg : Str → Option Value) (base : Heap) (x : Str) (k : Nat) (sp : Sp) : Prop where
  ex : ∃ (f : Addr) (fd : FuncData), FnOk P w K mg base CX0 k f fd psM sp ∧ mg x = some (.ref f) ∧ PySem.W.keepIn K (.ref f) = true ∧ KBn K fd psM 3 ["most"] (fun us ws => us ++ ws) (fun vs zs => vs ++ zs)
theorem pe_calM {X : Cx} {x : Str} {k : Nat} {sp : Sp} {e : Expr} {es : List Expr} {kws : List Keyword} {t tk : TA} {p pos : Pos} (c : CalM X.prog X.w X.K X.mg X.base x k sp) (hr : Room k X.A) (hg : Gl X x) (ha : PA X (e :: es) t) (hkw : PK X kws tk)
    (hall : (backToKw pos (keywordEach kws X.env)).all (·.1.isSome) = true := by rfl) (hks : (backToKw pos (keywordEach kws X.env)).filterMap (·.1) = (["most"] : List Str) := by rfl)
    (hdb : (x == ("__debug__" : Str)) = false := by decide) (he : starEach (e :: es) X.env = (false, eval e X.env) :: starEach es X.env := by rfl) (hpl : ((backTo pos (starEach (e :: es) X.env)).any (·.1) || (backToKw pos (keywordEach kws X.env)).any (·.1.isNone)) = false := by rfl) :
    PE X (.Call (.Name x p) (e :: es) kws pos) (tCallN 3 1 sp (fun vs zs => vs ++ zs) E0 t tk) := by
  obtain ⟨f, fd, F, g, kp, b⟩ := c.ex
  exact pe_callN F hr hg g kp b pass0 ha hkw hall hks hdb he hpl
theorem kbn_most {K : PySem.W.Frag} {x qual : Str} {st : Stmt} {f : Addr} {fd : FuncData} (F : Fun K x qual st f fd)
    (h : ∀ (kV doc pm : Value) (an : Option Addr) (cdv ct : Value) (a b c d : Value), bindArgs (PySem.W.fnOf x qual (defArgs st) (defBody st) (defScope st) .none kV doc pm an cdv ct) ⟨[a, b, c], [("most", d)]⟩ = pure (psM.zip [a, b, c, d])) :
    KBn K fd psM 3 ["most"] (fun us ws => us ++ ws) (fun vs zs => vs ++ zs) := by
  obtain ⟨_, _, kV, doc, pm, an, cdv, ct, _, rfl, _, _⟩ := F.ex
  refine ⟨fun s us ws _ l1 l2 => ?_, fun r1 r2 => r1.append r2⟩
  match us, ws, l1, l2 with
  | [a, b, c], [d], _, _ => exact .of_eq (h kV doc pm an cdv ct a b c d)
section
variable {P : Program} {w : World} {K : PySem.W.Frag} {mg : Str → Option Value} {base : Heap} {CM CC CP CF : Addr}
def spLeast (CM CC : Addr) : Sp := fun vs H Q _ => ∃ (m c : Addr) (T : List (List Nat)) (n f most : Nat) (S R : List Nat), vs = [.ref m, vN f, .ref c, vN most] ∧ MacAt CM H m T n ∧ CtrAt CC H c R ∧ Sys T n f S R ∧ 3000 ≤ most ∧
  ∀ v H' k, Same H H' → WitV H' v k → Fewest T f S (rd R) k → Q v H'
theorem scLeast : FnScope ["machine", "first", "counters", "most", "lots", "finder", "size", "found"] psM (defScope (topS 52)) := ⟨rfl, rfl, rfl, by decide +kernel, rfl, by decide +kernel, by decide +kernel⟩
theorem ok_least {f : Addr} {fd : FuncData} (F : Fun K "least_witness" "least_witness" (topS 52) f fd) (Z : Gls mg) (TF : FindC K CF) (cl : Cal P w K mg base "lots_of" 9 ["machine", "first", "counters"] (spLotsOf CM CC)) (cr : Cal P w K mg base "reached" 5 ["machine", "first"] (spReached CM))
    (co : Cal P w K mg base "own_tables" 1 ["machine", "first"] (spOwn CM)) (mk : Mak P w K mg base "Finder" CF 1 ["self", "machine", "first", "counters", "most"] (spFInit CF)) (mf : Mth P w K mg base CF "fitting" 5 ["self", "size"] (spFit2 CF CM CC)) :
    FnOk P w K mg base CX0 10 f fd psM (spLeast CM CC) := by
  refine F.ok scLeast (fun vs H Q E h => ?_) (fun cdv A outer s0 H vs Q E hr h => ?_)
  · obtain ⟨m, c, T, n, f, most, S, R, rfl, _⟩ := h; rfl
  · obtain ⟨m, c, T, n, f, most, S, R, rfl, hM, hC, Y, hmost, k⟩ := h
    refine ⟨_, pss_cons (ps_set (i := 4) scLeast.nd rfl (Or.inl rfl) (pe_cal cl hr (by rfl) (pa_cons (pv 0) (pa_cons (pv 1) (pa_cons (pv 2) pa_nil)))))
      (pss_cons (ps_set (i := 5) scLeast.nd rfl (Or.inl rfl) (pe_mak mk (hr.mono (by decide)) (by rfl) (pa_cons (pv 0) (pa_cons (pv 1) (pa_cons (pv 2) (pa_cons (pv 3) pa_nil))))))
      (pss_cons (ps_for PassesOwn.never rfl (pi_range2 (by rfl) Z.range (pa_cons (pe_callB call_len_seq (by rfl) Z.len (by decide +kernel) (pa_cons (pe_ix ix_tup (pv 4) pe_int (fun _ _ => rfl)) pa_nil)) (pa_cons (pe_callB call_len_seq (by rfl) Z.len (by decide +kernel) (pa_cons (pe_cal cr (hr.mono (by decide)) (by rfl) (pa_cons (pv 0) (pa_cons (pv 1) pa_nil))) pa_nil)) pa_nil))) (pg_name (i := 6) scLeast.nd rfl (Or.inl rfl))
        (pss_cons (ps_set (i := 7) scLeast.nd rfl (Or.inl rfl) (pe_mth (pv 5) TF.cl mf (hr.mono (by decide)) (pa_cons (pv 6) pa_nil)))
        (pss_one (ps_if (pt_cmpR op_notN (pv 7) pe_non (nomark _)) (pss_one (ps_ret (pv 7))) pss_nil))))
      (pss_one (ps_ret (pe_cal co (hr.mono (by decide)) (by rfl) (pa_cons (pv 0) (pa_cons (pv 1) pa_nil))))))), ?_⟩
    have M := Y.mach
    have D1 := Y.tb.len1
    refine ⟨_, rfl, _, rfl, _, rfl, m, c, T, n, f, S, R, rfl, hM, hC, Y, fun lq H1 us lots s1 hlq hlots good => ?_⟩
    obtain ⟨lot, hlot⟩ : ∃ lot, lots[0]? = some lot := by
      cases h : lots with
      | nil => exact absurd h good.ne
      | cons l _ => exact ⟨l, rfl⟩
    obtain ⟨u0, hu0, ⟨la, lx, rfl, hla, hlx⟩⟩ := pget' hlots hlot
    obtain ⟨g1, g2, g3, g4⟩ := good.lot lot (List.mem_of_getElem? hlot)
    have llx : lx.length = lot.length := plen hlx
    have lS : lot.length ≤ S.length := nodup_sub g2 fun s hs => g3 s hs
    have l1 : 1 ≤ lot.length := by
      cases h : lot with
      | nil => exact absurd h g1
      | cons _ _ => simp
    have sm := M.small
    obtain ⟨b, hb⟩ : ∃ b, b ∈ lot := by
      cases h : lot with
      | nil => exact absurd h g1
      | cons b _ => exact ⟨b, by simp⟩
    refine ⟨_, rfl, _, rfl, _, rfl, _, rfl, ?_⟩
    intro p dx hp0 hdx0 hpdx
    have s2 : Same H1 (upd (upd H1 dx (.own p)) p (.ins CF dx [])) := (Same.upd hdx0).new (by rw [upd_ne hpdx.symm]; exact hp0)
    refine ⟨p, dx, m, c, f, most, rfl, upd_same, fun H3 b3 p3 => ⟨rfl, ?_⟩⟩
    have s13 : Same H1 H3 := fun b o e => b3 _ _ (s2 _ _ e) (ne_of_none e hp0)
    have s3 := s1.trans s13
    refine ⟨_, rfl, lq, us, 0, _, rfl, rfl, .inl (.inl (s13 _ _ hlq)), at_V (i := 0) hu0, la, lx, rfl, .inr (.inl (.inl (s13 _ _ hla))), ?_⟩
    refine ⟨_, rfl, _, rfl, m, T, n, f, rfl, hM.keep s3, Y.tb, Y.lt, fun S0 H4 S' s34 hS0 nd mem lt => ?_⟩
    obtain ⟨_, lSS⟩ := M.other nd mem
    have p4 := s34 _ _ p3
    have s4 := s3.trans s34
    refine ⟨S0, _, rfl, .inr (.inl (.inl hS0)), (lx.length : Int), (S.length : Int), ?_, ⟨by omega, by omega, by omega, by omega⟩, ?_⟩
    · rw [List.length_map, lSS]
    rw [llx]
    have p0 : H p = none := s1.free hp0
    refine for_it walk_range (fun i σ H5 => ∃ (kk : Nat) (x y : Option V), σ = [some (.ref m), some (vN f), some (.ref c), some (vN most), some (.ref lq), some (.ref p), x, y] ∧ Same H H5 ∧ H5 p = some (.ins CF dx (fF m f c most kk)) ∧ (∀ k, lot.length ≤ k → k < lot.length + i → ∀ m W Z, TW T f (rd R) S m W Z → Z.length ≠ k))
      ⟨0, _, _, rfl, s4, p4, fun k h1 h2 => by omega⟩ (fun _ _ _ _ _ => True.intro) ?_ ?_
    · rintro i x σ H5 H5' hi ⟨kk, x0, y0, rfl, s5, p5, no⟩ ⟨rfl, ex⟩
      have ex' : x = vN (lot.length + i) := by rw [ex]; show V.int ((lot.length : Int) + (i : Int)) = V.int ((lot.length + i : Nat) : Int); congr 1
      subst ex'
      have hi' : lot.length + i < S.length := by omega
      refine ⟨_, rfl, p, dx, _, rfl, p5, (lk1 (by decide +kernel) (lk1 (by decide +kernel) (lk1 (by decide +kernel) (lk1 (by decide +kernel) (lk1 (by decide +kernel) rfl))))), _, rfl, ?_⟩
      refine ⟨p, dx, m, c, H, T, n, f, lot.length + i, most, kk, S, R, rfl, p5, s5, p0, hM, hC, Y, by omega, by omega, hmost, fun v B H6 b6 bt bg wit tells => ?_, fun H6 k6 b6 p6 none => ?_⟩
      · obtain ⟨q, _, rfl, _⟩ := id bt
        have hne : V.ref q ≠ V.non := fun z => nomatch z
        refine ⟨_, rfl, rfl, ⟨_, rfl, ?_⟩⟩
        rw [decide_eq_false hne]
        refine iteT ⟨_, rfl, ?_⟩
        exact k (.ref q) H6 (lot.length + i) (But.same s5 p0 b6) (bt.wit bg D1) ⟨by omega, by omega, fun _ => ⟨_, wit, tells⟩, none_of M hb g2 g3 g4 (by omega) no⟩
      · refine ⟨_, rfl, rfl, _, rfl, iteF ?_⟩
        refine ⟨k6, _, _, rfl, But.same s5 p0 b6, p6, fun k h1 h2 m' W Z tw => ?_⟩
        by_cases z : k = lot.length + i
        · rw [z]; exact none m' W Z tw
        · exact no k h1 (by omega) m' W Z tw
    · rintro σ H5 ⟨kk, x0, y0, rfl, s5, p5, no⟩
      refine ⟨_, rfl, _, rfl, m, T, n, f, S, rfl, hM.keep s5, Y.tb, Y.lt, M, fun v H6 s6 wv => ?_⟩
      refine k v H6 S.length (s5.trans s6) wv ⟨M.pos, Nat.le_refl _, fun h => absurd h (Nat.lt_irrefl _), none_of M hb g2 g3 g4 (Nat.le_refl _) fun k h1 h2 => no k h1 (by omega)⟩
def spFew (CM CC : Addr) : Sp := fun vs H Q _ => ∃ (m c : Addr) (T : List (List Nat)) (n f most : Nat) (S R : List Nat), vs = [.ref m, vN f, .ref c, vN most] ∧ MacAt CM H m T n ∧ CtrAt CC H c R ∧ Sys T n f S R ∧ 3000 ≤ most ∧
  ∀ k H', Same H H' → Fewest T f S (rd R) k → Q (vN k) H'
theorem scFew : FnScope psM psM (defScope (topS 53)) := ⟨rfl, rfl, rfl, by decide +kernel, rfl, by decide +kernel, by decide +kernel⟩
theorem ok_few {f : Addr} {fd : FuncData} (F : Fun K "fewest_standings" "fewest_standings" (topS 53) f fd) (Z : Gls mg) (cl : CalM P w K mg base "least_witness" 10 (spLeast CM CC)) : FnOk P w K mg base CX0 11 f fd psM (spFew CM CC) := by
  refine F.ok scFew (fun vs H Q E h => ?_) (fun cdv A outer s0 H vs Q E hr h => ?_)
  · obtain ⟨m, c, T, n, f, most, S, R, rfl, _⟩ := h; rfl
  · obtain ⟨m, c, T, n, f, most, S, R, rfl, hM, hC, Y, hmost, k⟩ := h
    refine ⟨_, pss_one (ps_ret (pe_callB call_len_seq (by rfl) Z.len (by decide +kernel) (pa_cons (pe_ix ix_tup (pe_calM cl hr (by rfl) (pa_cons (pv 0) (pa_cons (pv 1) (pa_cons (pv 2) pa_nil))) (pk_cons (pv 3) pk_nil)) pe_int (fun _ _ => rfl)) pa_nil))), ?_⟩
    refine ⟨_, rfl, _, rfl, _, rfl, _, rfl, rfl, rfl, m, c, T, n, f, most, S, R, rfl, hM, hC, Y, hmost, fun v H1 kk s1 ⟨q, us, b, xs, ev, h1, h2, h3, h4⟩ few => ?_⟩
    subst ev
    refine ⟨q, us, 0, _, rfl, rfl, .inl (.inl h1), at_V (i := 0) h2, b, xs, rfl, .inr (.inl (.inl h3)), ?_⟩
    rw [h4]
    exact k kk H1 s1 few
end
end OWP

/-! ## W28 -/
/-! W28: the law's box, what it takes and picks. -/
namespace OWP
open PySem PySem.Spec PyProof.Rows L2 OWR OW
def BoxAt (H : Hp) (b : Addr) : Prop := ∃ g r : Int, H b = some (.lst [.int g, .int r]) ∧ 0 ≤ r ∧ r ≤ 2147483587
section
variable {P : Program} {w : World} {base : Heap} {K : PySem.W.Frag} {mg : Str → Option Value}
def spBox (K : PySem.W.Frag) : Sp := fun vs H Q _ => ∃ (a : Addr) (ns : List Int), vs = [.ref a, .int 0] ∧ SqL K H a (ns.map V.int) ∧ ∀ b H', Same H H' → H b = none → BoxAt H' b → Q (.ref b) H'
theorem scBox : FnScope ["_law_script", "_law_k", "_law_cell", "_law_great"] ["_law_script", "_law_k"] (defScope (topS 55)) := ⟨rfl, rfl, rfl, by decide +kernel, rfl, by decide +kernel, by decide +kernel⟩
theorem ok_box {f : Addr} {fd : FuncData} (F : Fun K "_law_box" "_law_box" (topS 55) f fd) (Z : Gls mg) : FnOk P w K mg base CX0 1 f fd ["_law_script", "_law_k"] (spBox K) := by
  refine F.ok scBox (fun vs H Q E h => ?_) (fun cdv A outer s0 H vs Q E hr h => ?_)
  · obtain ⟨a, ns, rfl, _⟩ := h; rfl
  · obtain ⟨a, ns, rfl, ha, k⟩ := h
    refine ⟨_, pss_cons (ps_set (i := 2) scBox.nd rfl (Or.inl rfl) (pe_op op_add (pe_op op_mul pe_int (pv 1)) pe_int))
      (pss_cons (ps_if (pt_cmpR op_lt (pv 1) (pe_callB call_len_seq (by rfl) Z.len (by decide +kernel) (pa_cons (pv 0) pa_nil)) (nomark _))
        (pss_one (ps_set (i := 2) scBox.nd rfl (Or.inl rfl) (pe_callB call_abs (by rfl) Z.abs (by decide +kernel) (pa_cons (pe_callTy call_int1 (by rfl) Z.int (by decide +kernel) (pa_cons (pe_ix ix_list (pv 0) (pv 1) (fun _ _ => rfl)) pa_nil)) pa_nil))))
        (pss_one (ps_if (pt_cmpR op_gt (pe_callB call_len_seq (by rfl) Z.len (by decide +kernel) (pa_cons (pv 0) pa_nil)) pe_int (nomark _)) pss_never pss_nil)))
      (pss_cons (ps_set (i := 3) scBox.nd rfl (Or.inl rfl) (pe_ifExp (pt_cmpR op_ge (pv 2) (pe_op op_pow pe_int pe_int) (by rfl)) (pv 2) pe_int))
      (pss_one (ps_ret (pe_lst (pa_cons (pv 3) (pa_cons (pe_op op_add (pe_op op_mod (pe_callTy call_int1 (by rfl) Z.int (by decide +kernel) (pa_cons (pe_op op_add (pe_op op_mul (pe_op op_mod (pe_callTy call_int1 (by rfl) Z.int (by decide +kernel) (pa_cons (pv 2) pa_nil)) pe_int) pe_int) (pe_op op_mul pe_int (pv 1))) pa_nil)) pe_int) pe_int) pa_nil))))))), ?_⟩
    have e0 : ∀ x : Int, 0 ≤ x % 2147483587 + 1 ∧ x % 2147483587 + 1 ≤ 2147483587 := fun x => by omega
    have fin : ∀ (g c : Int) (σ : St), σ = [some (.ref a), some (.int 0), some (.int c), some (.int g)] → tRet (tLst (tCons (tVar 3) (tCons (tOp (rI0 fun i j => .int (i + j)) (tOp (rI (fun _ j => 0 < j) fun i j => .int (i % j)) (tCB (fun xs H Q => (∃ i, xs = [.int i] ∧ Q (.int i) H) ∨ ∃ k, xs = [.bl k] ∧ Q (.int (if k then 1 else 0)) H) (tCons (tOp (rI0 fun i j => .int (i + j)) (tOp (rI CMul fun i j => .int (i * j)) (tOp (rI (fun _ j => 0 < j) fun i j => .int (i % j)) (tCB (fun xs H Q => (∃ i, xs = [.int i] ∧ Q (.int i) H) ∨ ∃ k, xs = [.bl k] ∧ Q (.int (if k then 1 else 0)) H) (tCons (tVar 2) tNil)) (tC (.int 2147483587))) (tC (.int 69739))) (tOp (rI CMul fun i j => .int (i * j)) (tC (.int 137)) (tVar 1))) tNil)) (tC (.int 2147483587))) (tC (.int 1))) tNil))) { nx := fun _ H' => Q .non H', rt := Q } σ H := by
      rintro g c σ rfl
      refine ⟨_, rfl, _, rfl, .inl ⟨_, rfl, _, _, rfl, rfl, (by show (0:Int) < 2147483587; decide), _, _, rfl, rfl, .inr ⟨by decide, by decide⟩, _, rfl, _, _, rfl, rfl, .inr ⟨by decide, by decide⟩, _, _, rfl, rfl, .inl ⟨_, rfl, _, _, rfl, rfl, (by show (0:Int) < 2147483587; decide), _, _, rfl, rfl, (by show 2 ≤ sizeLine; decide), fun b hb => ?_⟩⟩⟩
      exact k b _ (Same.upd hb) hb ⟨_, _, upd_same, (e0 _).1, (e0 _).2⟩
    refine ⟨_, rfl, _, _, rfl, rfl, .inr ⟨by decide, by decide⟩, _, _, rfl, rfl, ?_⟩
    refine ⟨_, rfl, _, rfl, a, _, rfl, .inl ha, _, _, rfl, rfl, _, rfl, ?_⟩
    refine ite2 (fun hpos => ?_) (fun hz => ?_)
    · have hl : 0 < ns.length := by have := of_decide_eq_true hpos; rw [List.length_map] at this; omega
      obtain ⟨n0, hn0⟩ : ∃ n0, ns[0]? = some n0 := ⟨_, List.getElem?_eq_getElem hl⟩
      refine ⟨_, rfl, _, rfl, a, _, _, _, rfl, rfl, ha, at_V (i := 0) (v := .int n0) (by rw [List.getElem?_map, hn0]; rfl), .inl ⟨_, rfl, _, rfl, ?_⟩⟩
      refine ⟨_, rfl, _, _, rfl, rfl, (by show (0:Int) ≤ 18 ∧ (18:Int) ≤ 1000000 ∧ (10:Int).natAbs < 2 ^ 64; decide), _, _, rfl, rfl, _, rfl, ?_⟩
      refine ite2 (fun _ => ?_) fun _ => ?_
      · exact ⟨_, rfl, fin _ _ _ rfl⟩
      · exact fin _ _ _ rfl
    · have hl : ns.length = 0 := by
        have : ¬ ((0:Int) < ((ns.map V.int).length : Int)) := fun z => hz (decide_eq_true z)
        rw [List.length_map] at this; omega
      refine ⟨_, rfl, a, _, rfl, .inl ha, _, _, rfl, rfl, _, rfl, ifF (by rw [List.length_map]; omega) ?_⟩
      refine ⟨_, rfl, _, _, rfl, rfl, (by show (0:Int) ≤ 18 ∧ (18:Int) ≤ 1000000 ∧ (10:Int).natAbs < 2 ^ 64; decide), _, _, rfl, rfl, _, rfl, ?_⟩
      refine ite2 (fun _ => ?_) fun _ => ?_
      · exact ⟨_, rfl, fin _ _ _ rfl⟩
      · exact fin _ _ _ rfl
def spTake : Sp := fun vs H Q _ => ∃ (b : Addr) (k : Nat), vs = [.ref b, vN k] ∧ BoxAt H b ∧ 1 ≤ k ∧ k ≤ 1000 ∧ ∀ d H', d < k → But b H H' → BoxAt H' b → Q (vN d) H'
theorem emod_vN (x : Int) {k : Nat} (h : 1 ≤ k) : ∃ d : Nat, d < k ∧ V.int (x % (k : Int)) = vN d := ⟨(x % (k : Int)).toNat, by have := Int.emod_nonneg x (b := (k : Int)) (by omega); have := Int.emod_lt_of_pos x (b := (k : Int)) (by omega); omega, by show V.int _ = V.int _; rw [Int.toNat_of_nonneg (Int.emod_nonneg x (by omega))]⟩
theorem scTake : FnScope ["_law_box_here", "_law_many", "_law_digit", "_law_raw"] ["_law_box_here", "_law_many"] (defScope (topS 56)) := ⟨rfl, rfl, rfl, by decide +kernel, rfl, by decide +kernel, by decide +kernel⟩
theorem ok_take {f : Addr} {fd : FuncData} (F : Fun K "_law_take" "_law_take" (topS 56) f fd) (Z : Gls mg) : FnOk P w K mg base CX0 1 f fd ["_law_box_here", "_law_many"] spTake := by
  refine F.ok scTake (fun vs H Q E h => ?_) (fun cdv A outer s0 H vs Q E hr h => ?_)
  · obtain ⟨b, k, rfl, _⟩ := h; rfl
  · obtain ⟨b, k, rfl, ⟨g, r, hb, r0, r1⟩, k1, k2, kk⟩ := h
    refine ⟨_, pss_cons (ps_if (pt_cmpR op_gt (pe_ix ix_list (pv 0) pe_int (fun _ _ => rfl)) pe_int (nomark _))
        (pss_cons (ps_set (i := 2) scTake.nd rfl (Or.inl rfl) (pe_op op_mod (pe_callTy call_int1 (by rfl) Z.int (by decide +kernel) (pa_cons (pe_ix ix_list (pv 0) pe_int (fun _ _ => rfl)) pa_nil)) (pv 1)))
        (pss_cons (ps_asg (pe_op op_fdiv (pe_ix ix_list (pv 0) pe_int (fun _ _ => rfl)) (pv 1)) (pg_sub (pv 0) pe_int set_list))
        (pss_one (ps_ret (pv 2))))) pss_nil)
      (pss_cons (ps_set (i := 3) scTake.nd rfl (Or.inl rfl) (pe_op op_mod (pe_callTy call_int1 (by rfl) Z.int (by decide +kernel) (pa_cons (pe_op op_add (pe_op op_mul (pe_ix ix_list (pv 0) pe_int (fun _ _ => rfl)) pe_int) pe_int) pa_nil)) pe_int))
      (pss_cons (ps_asg (pe_op op_add (pe_op op_mod (pe_callTy call_int1 (by rfl) Z.int (by decide +kernel) (pa_cons (pe_op op_add (pe_op op_mul (pv 3) pe_int) pe_int) pa_nil)) pe_int) pe_int) (pg_sub (pv 0) pe_int set_list))
      (pss_one (ps_ret (pe_op op_mod (pe_callTy call_int1 (by rfl) Z.int (by decide +kernel) (pa_cons (pe_op op_fdiv (pe_op op_add (pe_op op_mul (pv 3) pe_int) (pe_ix ix_list (pv 0) pe_int (fun _ _ => rfl))) pe_int) pa_nil)) (pv 1)))))), ?_⟩
    refine ⟨_, rfl, b, _, 0, _, rfl, rfl, .of hb, rfl, _, _, rfl, rfl, _, rfl, ?_⟩
    refine ite2 (fun hpos => ?_) (fun hz => ?_)
    · obtain ⟨d, hd, ed⟩ := emod_vN g k1
      refine ⟨_, rfl, b, _, 0, _, rfl, rfl, .of hb, rfl, .inl ⟨_, rfl, _, rfl, _, _, rfl, rfl, (by show (0:Int) < (k:Int); omega), ?_⟩⟩
      refine ⟨_, rfl, b, _, 0, _, rfl, rfl, .of hb, rfl, _, rfl, _, _, rfl, rfl, ⟨by omega, by omega⟩, _, rfl, b, _, 0, 0, rfl, rfl, hb, rfl, ?_⟩
      refine ⟨_, rfl, ?_⟩
      have z := kk d (upd H b (.lst [.int (g / (k : Int)), .int r])) hd But.refl.own ⟨_, r, upd_same, r0, r1⟩
      rw [← ed] at z
      exact z
    · have hraw0 := Int.emod_nonneg (r * 40692 + 73) (b := 2147483399) (by decide)
      have hraw1 := Int.emod_lt_of_pos (r * 40692 + 73) (b := 2147483399) (by decide)
      refine ⟨_, rfl, b, _, 1, _, rfl, rfl, .of hb, rfl, _, _, rfl, rfl, .inr ⟨by decide, by decide⟩, _, _, rfl, rfl, .inl ⟨_, rfl, _, _, rfl, rfl, (by show (0:Int) < 2147483399; decide), ?_⟩⟩
      refine ⟨_, rfl, _, _, rfl, rfl, .inr ⟨by decide, by decide⟩, _, _, rfl, rfl, .inl ⟨_, rfl, _, _, rfl, rfl, (by show (0:Int) < 2147483587; decide), _, _, rfl, rfl, _, rfl, b, _, 1, 1, rfl, rfl, hb, rfl, ?_⟩⟩
      obtain ⟨d, hd, ed⟩ := emod_vN ((((r * 40692 + 73) % 2147483399) * 2147483629 + ((((r * 40692 + 73) % 2147483399) * 39373 + 29) % 2147483587 + 1)) / 8161) k1
      refine ⟨_, rfl, _, _, rfl, rfl, .inr ⟨by decide, by decide⟩, _, rfl, b, _, 1, _, rfl, rfl, .of upd_same, rfl, _, _, rfl, rfl, _, _, rfl, rfl, ⟨by decide, by decide⟩, .inl ⟨_, rfl, _, rfl, _, _, rfl, rfl, (by show (0:Int) < (k:Int); omega), ?_⟩⟩
      have z := kk d (upd H b (.lst [.int g, .int ((((r * 40692 + 73) % 2147483399) * 39373 + 29) % 2147483587 + 1)])) hd But.refl.own ⟨g, _, upd_same, by omega, by omega⟩
      rw [← ed] at z
      exact z
def spPick (K : PySem.W.Frag) : Sp := fun vs H Q _ => ∃ (b l : Addr) (ns : List Nat), vs = [.ref b, .ref l] ∧ BoxAt H b ∧ b ≠ l ∧ H l = some (.lst (ns.map vN)) ∧ 1 ≤ ns.length ∧ ns.length ≤ 1000 ∧ ∀ n H', n ∈ ns → But b H H' → BoxAt H' b → Q (vN n) H'
theorem scPick : FnScope ["_law_box_here", "_law_some"] ["_law_box_here", "_law_some"] (defScope (topS 57)) := ⟨rfl, rfl, rfl, by decide +kernel, rfl, by decide +kernel, by decide +kernel⟩
theorem ok_pick {f : Addr} {fd : FuncData} (F : Fun K "_law_pick" "_law_pick" (topS 57) f fd) (Z : Gls mg) (ct : Cal P w K mg base "_law_take" 1 ["_law_box_here", "_law_many"] spTake) : FnOk P w K mg base CX0 2 f fd ["_law_box_here", "_law_some"] (spPick K) := by
  refine F.ok scPick (fun vs H Q E h => ?_) (fun cdv A outer s0 H vs Q E hr h => ?_)
  · obtain ⟨b, l, ns, rfl, _⟩ := h; rfl
  · obtain ⟨b, l, ns, rfl, hb, nbl, hl, h1, h2, k⟩ := h
    refine ⟨_, pss_one (ps_ret (pe_ix ix_list (pv 1) (pe_cal ct hr (by rfl) (pa_cons (pv 0) (pa_cons (pe_callB call_len_seq (by rfl) Z.len (by decide +kernel) (pa_cons (pv 1) pa_nil)) pa_nil))) (fun _ _ => rfl))), ?_⟩
    refine ⟨_, rfl, _, rfl, _, rfl, l, _, rfl, .inl (.of hl), b, ns.length, ?_, hb, h1, h2, fun d H' hd bt bx => ?_⟩
    · rw [List.length_map]; rfl
    exact ⟨l, _, _, _, rfl, rfl, .of (bt _ _ hl nbl.symm), at_vN hd, k _ H' (getD_mem hd) bt bx⟩
end
end OWP

/-! ## W29 -/
/-! W29: the law's arrangements. -/
namespace OWP
open PySem PySem.Spec PyProof.Rows L2 OWR OW
/-- an arrangement of the numbers below k -/
structure Arr (k : Nat) (F : List Nat) : Prop where
  len : F.length = k
  nd : F.Nodup
  lt : ∀ x, x ∈ F → x < k
theorem arr_range (k : Nat) : Arr k (List.range k) := ⟨List.length_range, List.nodup_range, fun x h => List.mem_range.mp h⟩
theorem Arr.getLt {k : Nat} {F : List Nat} (a : Arr k F) {i : Nat} (h : i < k) : F.getD i 0 < k := a.lt _ (getD_mem (by rw [a.len]; exact h))
theorem arr_map {k : Nat} {g : Nat → Nat} (h : ∀ s, s < k → g s < k) (inj : ∀ s, s < k → ∀ t, t < k → g s = g t → s = t) : Arr k ((List.range k).map g) := ⟨by rw [List.length_map, List.length_range], nodup_map List.nodup_range fun x hx y hy => inj x (List.mem_range.mp hx) y (List.mem_range.mp hy), fun x hx => by
  obtain ⟨s, hs, rfl⟩ := List.mem_map.mp hx
  exact h s (List.mem_range.mp hs)⟩
theorem rgV_range (k : Nat) : rgV 0 (k : Int) = (List.range k).map vN := by
  unfold rgV
  have e : ((k : Int) - 0).toNat = k := by omega
  rw [e]
  refine List.map_congr_left (fun i _ => ?_)
  show V.int (0 + (i : Int)) = V.int (i : Int)
  rw [Int.zero_add]
theorem er_map {α β : Type} (f : α → β) : ∀ (l : List α) (i : Nat), (l.map f).eraseIdx i = (l.eraseIdx i).map f
  | [], _ => rfl
  | a :: l, 0 => rfl
  | a :: l, i + 1 => by show f a :: (l.map f).eraseIdx i = f a :: (l.eraseIdx i).map f; rw [er_map f l i]
theorem er_perm {α : Type} : ∀ (l : List α) (i : Nat) (y : α), l[i]? = some y → (y :: l.eraseIdx i).Perm l
  | a :: l, 0, y, h => by cases h; exact List.Perm.refl _
  | a :: l, i + 1, y, h => (List.Perm.swap a y (l.eraseIdx i)).trans ((er_perm l i y h).cons a)
section
variable {P : Program} {w : World} {base : Heap} {K : PySem.W.Frag} {mg : Str → Option Value}
theorem But.newNone {p q : Addr} {H H1 : Hp} (b : But p H H1) (h : H1 q = none) (hp : ∃ o, H1 p = some o) : H q = none := by
  cases e : H q with
  | none => rfl
  | some o =>
    by_cases z : q = p
    · obtain ⟨o', ho⟩ := hp; rw [z, ho] at h; cases h
    · rw [b _ _ e z] at h; cases h
theorem BoxAt.some {H : Hp} {b : Addr} (h : BoxAt H b) : ∃ o, H b = some o := let ⟨_, _, e, _⟩ := h; ⟨_, e⟩
theorem BoxAt.keep {H H' : Hp} {b : Addr} (h : BoxAt H b) (k : ∀ o, H b = .some o → H' b = .some o) : BoxAt H' b := let ⟨g, r, e, x⟩ := h; ⟨g, r, k _ e, x⟩
def spMixed : Sp := fun vs H Q _ => ∃ (b : Addr) (k : Nat), vs = [.ref b, vN k] ∧ BoxAt H b ∧ 1 ≤ k ∧ k ≤ 1000 ∧ ∀ q H' F, But b H H' → BoxAt H' b → H q = none → H' q = some (.lst (F.map vN)) → Arr k F → Q (.ref q) H'
theorem scMixed : FnScope ["_law_box_here", "_law_many", "_law_found", "_law_left", "_law_turn"] ["_law_box_here", "_law_many"] (defScope (topS 58)) := ⟨rfl, rfl, rfl, by decide +kernel, rfl, by decide +kernel, by decide +kernel⟩
theorem ok_mixed {f : Addr} {fd : FuncData} (F : Fun K "_law_mixed" "_law_mixed" (topS 58) f fd) (Z : Gls mg) (ct : Cal P w K mg base "_law_take" 1 ["_law_box_here", "_law_many"] spTake) : FnOk P w K mg base CX0 2 f fd ["_law_box_here", "_law_many"] spMixed := by
  refine F.ok scMixed (fun vs H Q E h => ?_) (fun cdv A outer s0 H vs Q E hr h => ?_)
  · obtain ⟨b, k, rfl, _⟩ := h; rfl
  · obtain ⟨b, k, rfl, hb, k1, k2, kk⟩ := h
    refine ⟨_, pss_cons (ps_par (i := 2) (j := 3) rfl scMixed.nd rfl rfl (by decide) rfl rfl (pa_cons (pe_lst pa_nil) (pa_cons (pe_listRg rfl (by rfl) Z.list (prg_1 (by rfl) Z.range (pv 1))) pa_nil)) (by rfl))
      (pss_cons (ps_for PassesOwn.never rfl (pi_range1 (by rfl) Z.range (pa_cons (pv 1) pa_nil)) (pg_name (i := 4) scMixed.nd rfl (Or.inl rfl))
        (pss_one (ps_expr (pe_bm PySem.F.plainAttrs_list PySem.F.slot_list_append PySem.F.type_list_append mt_append (pv 2) (pa_cons (pe_bm PySem.F.plainAttrs_list PySem.F.slot_list_pop PySem.F.type_list_pop mt_popAt (pv 3) (pa_cons (pe_cal ct hr (by rfl) (pa_cons (pv 0) (pa_cons (pe_callB call_len_seq (by rfl) Z.len (by decide +kernel) (pa_cons (pv 3) pa_nil)) pa_nil))) pa_nil)) pa_nil)))))
      (pss_one (ps_ret (pv 2)))), ?_⟩
    refine ⟨(by show 0 ≤ sizeLine; decide), fun fl hfl => ⟨_, rfl, k, rfl, RgOk.of_le (by decide) (by omega) (by decide) (by omega), fun ll hll => ⟨_, _, rfl, ?_⟩⟩⟩
    rw [rgV_range]
    have nfl : fl ≠ ll := fun z => by rw [← z, upd_same] at hll; cases hll
    obtain ⟨ob, hob⟩ := hb.some
    have nbf : b ≠ fl := ne_of_none hob hfl
    have hll0 : H ll = none := by rw [upd_ne nfl.symm] at hll; exact hll
    have nbl : b ≠ ll := ne_of_none hob hll0
    have b1 : But b H (upd (upd H fl (.lst [])) ll (.lst ((List.range k).map vN))) := ((But.refl).new hfl).new hll
    have f1 := at_new (o := .lst ((List.range k).map vN)) (upd_same (H := H) (a := fl) (o := .lst [])) hll
    have l1 := upd_same (H := upd H fl (.lst [])) (a := ll) (o := .lst ((List.range k).map vN))
    have bx1 : BoxAt (upd (upd H fl (.lst [])) ll (.lst ((List.range k).map vN))) b := hb.keep fun o e => at_new (at_new e hfl) hll
    generalize upd (upd H fl (.lst [])) ll (.lst ((List.range k).map vN)) = H1 at b1 f1 l1 bx1 ⊢
    refine ⟨_, rfl, (k : Int), rfl, by omega, by omega, ?_⟩
    refine for_it walk_range (fun i σ H2 => ∃ (F L : List Nat) (x : Option V), σ = [some (.ref b), some (vN k), some (.ref fl), some (.ref ll), x] ∧ But b H H2 ∧ BoxAt H2 b ∧ H2 fl = some (.lst (F.map vN)) ∧ H2 ll = some (.lst (L.map vN)) ∧ F.length = i ∧ L.length = k - i ∧ (F ++ L).Nodup ∧ ∀ x, x ∈ F ++ L → x < k)
      ⟨[], List.range k, _, rfl, b1, bx1, f1, l1, rfl, by simp, by simpa using List.nodup_range, fun x h => by simpa using h⟩ (fun _ _ _ _ _ => True.intro) ?_ ?_
    · rintro i x σ H2 H2' hi ⟨F, L, x0, rfl, b2, bx2, f2, l2, hF, hL, nd, lt⟩ ⟨rfl, ex⟩
      have hi : i < ((k : Int)).toNat := hi
      rw [Int.toNat_natCast] at hi
      refine ⟨_, rfl, .inl ⟨rfl, _, .of f2⟩, _, rfl, .inl ⟨rfl, _, .of l2⟩, _, rfl, _, rfl, ll, _, rfl, .inl (.of l2), b, L.length, by rw [List.length_map]; rfl, bx2, by omega, by omega, fun d H3 hd b3 bx3 => ?_⟩
      have l3 := b3 _ _ l2 nbl.symm
      have f3 := b3 _ _ f2 nbf.symm
      obtain ⟨y, hy⟩ : ∃ y, L[d]? = some y := ⟨_, List.getElem?_eq_getElem hd⟩
      have hsi : seqIndex? ((d : Nat) : Int) (L.map vN).length = some d := by
        rw [List.length_map]
        unfold seqIndex?
        rw [if_neg (by omega : ¬ ((d : Int) < 0))]
        simp
        omega
      refine ⟨ll, L.map vN, _, d, vN y, rfl, rfl, l3, by omega, by omega, hsi, by rw [List.getElem?_map, hy]; rfl, ?_⟩
      have f4 : upd H3 ll (.lst ((L.map vN).eraseIdx d)) fl = some (.lst (F.map vN)) := by rw [upd_ne nfl]; exact f3
      refine ⟨fl, _, _, rfl, rfl, f4, by rw [List.length_map]; exact small1000 (by omega), ?_⟩
      have eer : (L.map vN).eraseIdx d = (L.eraseIdx d).map vN := er_map _ _ _
      have ll0 : H ll = none := hll0
      have perm : (F ++ [y] ++ L.eraseIdx d).Perm (F ++ L) := by
        have h1 : (y :: L.eraseIdx d).Perm L := er_perm L d y hy
        rw [List.append_assoc]
        exact List.Perm.append_left F h1
      refine ⟨F ++ [y], L.eraseIdx d, _, rfl, ((b2.trans b3).mut hll0).mut hfl, bx3.keep fun o e => by rw [upd_ne nbf, upd_ne nbl]; exact e, by rw [upd_same, List.map_append]; rfl, by rw [upd_ne nfl.symm, upd_same, eer], by rw [List.length_append, hF]; rfl, by rw [List.length_eraseIdx, if_pos hd]; omega, perm.nodup_iff.mpr nd, fun x hx => lt x (perm.mem_iff.mp hx)⟩
    · rintro σ H2 ⟨F, L, x0, rfl, b2, bx2, f2, l2, hF, hL, nd, lt⟩
      rw [Int.toNat_natCast] at hF hL
      have hL0 : L = [] := List.eq_nil_of_length_eq_zero (by omega)
      subst hL0
      rw [List.append_nil] at nd lt
      exact ⟨_, rfl, kk fl H2 F b2 bx2 hfl f2 ⟨hF, nd, lt⟩⟩
def spExchg : Sp := spMixed
theorem scExchg : FnScope ["_law_box_here", "_law_many", "_law_style", "_law_one", "_law_other", "_law_state"] ["_law_box_here", "_law_many"] (defScope (topS 59)) := ⟨rfl, rfl, rfl, by decide +kernel, rfl, by decide +kernel, by decide +kernel⟩
theorem ok_exchg {f : Addr} {fd : FuncData} (F : Fun K "_law_exchange" "_law_exchange" (topS 59) f fd) (Z : Gls mg) (ct : Cal P w K mg base "_law_take" 1 ["_law_box_here", "_law_many"] spTake) (cm : Cal P w K mg base "_law_mixed" 2 ["_law_box_here", "_law_many"] spMixed) : FnOk P w K mg base CX0 3 f fd ["_law_box_here", "_law_many"] spMixed := by
  refine F.ok scExchg (fun vs H Q E h => ?_) (fun cdv A outer s0 H vs Q E hr h => ?_)
  · obtain ⟨b, k, rfl, _⟩ := h; rfl
  · obtain ⟨b, k, rfl, hb, k1, k2, kk⟩ := h
    refine ⟨_, pss_cons (ps_asg (pe_tup (pa_cons (pe_cal ct (hr.mono (by decide)) (by rfl) (pa_cons (pv 0) (pa_cons pe_int pa_nil))) (pa_cons (pe_cal ct (hr.mono (by decide)) (by rfl) (pa_cons (pv 0) (pa_cons (pv 1) pa_nil))) (pa_cons (pe_cal ct (hr.mono (by decide)) (by rfl) (pa_cons (pv 0) (pa_cons (pv 1) pa_nil))) pa_nil)))) (pg_tup rfl (pgs_cons (pg_name (i := 2) scExchg.nd rfl (.inl rfl)) (pgs_cons (pg_name (i := 3) scExchg.nd rfl (.inr rfl)) (pgs_cons (pg_name (i := 4) scExchg.nd rfl (.inr rfl)) pgs_nil)))))
      (pss_cons (ps_if (PW.pt (pw_and (pt_cmpR op_eq (pv 2) pe_int (nomark _)) (pw_and1 (pt_cmpR op_eq (pe_cal ct (hr.mono (by decide)) (by rfl) (pa_cons (pv 0) (pa_cons pe_int pa_nil))) pe_int (nomark _))))) (pss_one (ps_ret (pe_listRg rfl (by rfl) Z.list (prg_1 (by rfl) Z.range (pv 1))))) pss_nil)
      (pss_cons (ps_if (pt_cmpR op_eq (pv 2) pe_int (nomark _)) (pss_one (ps_ret
          (pe_lc (own := [("_law_state", 5)]) (g := gName 5) (tt := tYes) (te := tOp (rI (fun _ j => 0 < j) fun i j => .int (i % j)) (tCB (fun xs H Q => (∃ i, xs = [.int i] ∧ Q (.int i) H) ∨ ∃ k, xs = [.bl k] ∧ Q (.int (if k then 1 else 0)) H) (tCons (tOp (rI0 fun i j => .int (i + j)) (tVar 5) (tVar 3)) tNil)) (tVar 1)) rfl scExchg.nd (pi_range1 (by rfl) Z.range (pa_cons (pv 1) pa_nil)) (blkOk_by (N := ["_law_box_here", "_law_many", "_law_style", "_law_one", "_law_other", "_law_state"]) (sc := defScope (topS 59)) (by decide +kernel))
            (fun _ _ _ _ _ => pg_name (i := 5) scExchg.nd rfl (.inl rfl)) (fun _ _ _ _ _ => pts_nil) (fun _ _ _ _ _ => pe_op op_mod (pe_callTy call_int1 (by rfl) Z.int (by decide +kernel) (pa_cons (pe_op op_add (pv 5) (pv 3)) pa_nil)) (pv 1))))) pss_nil)
      (pss_cons (ps_if (pt_cmpR op_eq (pv 2) pe_int (nomark _)) (pss_one (ps_ret
          (pe_lc (own := [("_law_state", 5)]) (g := gName 5) (tt := tYes) (te := tIf (tTest (tOp rEq (tVar 5) (tVar 3))) (tVar 4) (tIf (tTest (tOp rEq (tVar 5) (tVar 4))) (tVar 3) (tVar 5))) rfl scExchg.nd (pi_range1 (by rfl) Z.range (pa_cons (pv 1) pa_nil)) (blkOk_by (N := ["_law_box_here", "_law_many", "_law_style", "_law_one", "_law_other", "_law_state"]) (sc := defScope (topS 59)) (by decide +kernel))
            (fun _ _ _ _ _ => pg_name (i := 5) scExchg.nd rfl (.inl rfl)) (fun _ _ _ _ _ => pts_nil) (fun _ _ _ _ _ => pe_ifExp (pt_cmpR op_eq (pv 5) (pv 3) (nomark _)) (pv 4) (pe_ifExp (pt_cmpR op_eq (pv 5) (pv 4) (nomark _)) (pv 3) (pv 5)))))) pss_nil)
      (pss_one (ps_ret (pe_cal cm hr (by rfl) (pa_cons (pv 0) (pa_cons (pv 1) pa_nil)))))))), ?_⟩
    refine ⟨_, rfl, b, 5, rfl, hb, by decide, by decide, fun style H1 _ b1 bx1 => ⟨_, rfl, _, rfl, b, k, rfl, bx1, k1, k2, fun one H2 h1 b2 bx2 => ⟨_, rfl, _, rfl, b, k, rfl, bx2, k1, k2, fun other H3 h2 b3 bx3 => ⟨(by show 3 ≤ sizeLine; decide), fun t ht => ?_⟩⟩⟩⟩
    have b4 : But b H (upd H3 t (.tup [vN style, vN one, vN other])) := ((b1.trans b2).trans b3).new ht
    have bx4 : BoxAt (upd H3 t (.tup [vN style, vN one, vN other])) b := bx3.keep fun o e => at_new e ht
    have t4 := upd_same (H := H3) (a := t) (o := .tup [vN style, vN one, vN other])
    generalize upd H3 t (.tup [vN style, vN one, vN other]) = H4 at b4 bx4 t4 ⊢
    refine ⟨t, _, rfl, .inl (.inl t4), rfl, _, _, rfl, _, _, rfl, _, _, rfl, rfl, ?_⟩
    -- the later ways
    have cell0 : ∀ {n : Nat}, ¬ (vN style = V.int (n : Int)) → style ≠ n := fun h e => h (by rw [e])
    have hcat : ∀ {n : Nat}, style = n → vN style = V.int (n : Int) := fun e => by rw [e]
    refine ⟨_, rfl, rfl, ⟨_, rfl, ?_⟩⟩
    have rest : ∀ {H5 : Hp}, But b H H5 → BoxAt H5 b → ∀ (TS1 TS2 : Prop), True := fun _ _ _ _ => trivial
    have comp : ∀ {H5 L : _} {g : Nat → Nat}, But b H H5 → BoxAt H5 b → H5 L = none → (∀ s, s < k → g s < k) → (∀ s, s < k → ∀ t, t < k → g s = g t → s = t) → ∀ H6, Same H5 H6 → H6 L = some (.lst ((List.range k).map fun s => vN (g s))) → Q (.ref L) H6 := fun {H5 L g} b5 bx5 hL hg hi H6 s6 h6 => by
      refine kk L H6 ((List.range k).map g) (b5.trans (But.of s6)) (bx5.keep fun o e => s6 _ _ e) (b5.newNone hL bx5.some) ?_ (arr_map hg hi)
      rw [h6, List.map_map]; rfl
    have tail : ∀ {H5 : Hp}, But b H H5 → BoxAt H5 b → tSeq (tIfS (tTest (tOp rEq (tVar 2) (tC (.int 1)))) (tRet (tLc (iRng1 (tCons (tVar 1) tNil)) (gName 5) tYes (tOp (rI (fun _ j => 0 < j) fun i j => .int (i % j)) (tCB (fun xs H Q => (∃ i, xs = [.int i] ∧ Q (.int i) H) ∨ ∃ k, xs = [.bl k] ∧ Q (.int (if k then 1 else 0)) H) (tCons (tOp (rI0 fun i j => .int (i + j)) (tVar 5) (tVar 3)) tNil)) (tVar 1)) [5])) tNext)
        (tSeq (tIfS (tTest (tOp rEq (tVar 2) (tC (.int 2)))) (tRet (tLc (iRng1 (tCons (tVar 1) tNil)) (gName 5) tYes (tIf (tTest (tOp rEq (tVar 5) (tVar 3))) (tVar 4) (tIf (tTest (tOp rEq (tVar 5) (tVar 4))) (tVar 3) (tVar 5))) [5])) tNext)
        (tRet (tCall spMixed [] E0 (tCons (tVar 0) (tCons (tVar 1) tNil))))) { nx := fun _ H' => Q .non H', rt := Q } [some (.ref b), some (vN k), some (vN style), some (vN one), some (vN other), none] H5 := fun {H5} b5 bx5 => by
      refine ⟨_, rfl, rfl, ⟨_, rfl, ?_⟩⟩
      by_cases s1 : style = 1
      · refine ifT (hcat s1) ?_
        refine ⟨_, rfl, (k : Int), rfl, by omega, by omega, fun L hL => ?_⟩
        refine lc_it walk_range (fun i H6 => Same H5 H6 ∧ H6 L = some (.lst ((List.range i).map fun s => vN ((s + one) % k)))) ⟨Same.upd hL, upd_same⟩ (fun _ _ _ _ => True.intro) ?_ ?_
        · rintro i x Hx H6 hi ⟨s6, h6⟩ ⟨rfl, ex⟩
          obtain rfl := yN ex
          have hi : i < ((k : Int)).toNat := hi
          rw [Int.toNat_natCast] at hi
          have em : ((i : Int) + (one : Int)) % (k : Int) = (((i + one) % k : Nat) : Int) := by rw [Int.natCast_emod, Int.natCast_add]
          refine ⟨rfl, yes ⟨_, rfl, _, rfl, _, _, rfl, rfl, .inl ⟨_, rfl, _, rfl, _, _, rfl, rfl, (by show (0:Int) < (k:Int); omega), _, h6, by rw [List.length_map, List.length_range]; exact small1000 (by omega), s6.mut hL, ?_⟩⟩⟩
          rw [upd_same, List.range_succ, List.map_append]
          show some (HO.lst (_ ++ [V.int (((i : Int) + (one : Int)) % (k : Int))])) = _
          rw [em]; rfl
        · rintro H6 ⟨s6, h6⟩
          rw [Int.toNat_natCast] at h6
          refine comp (g := fun s => (s + one) % k) b5 bx5 hL (fun s _ => Nat.mod_lt _ (by omega)) (fun s hs t ht e => ?_) H6 s6 h6
          have e : (s + one) % k = (t + one) % k := e
          have m1 := Nat.div_add_mod (s + one) k
          have m2 := Nat.div_add_mod (t + one) k
          have q1 : (s + one) / k < 2 := Nat.div_lt_of_lt_mul (by omega)
          have q2 : (t + one) / k < 2 := Nat.div_lt_of_lt_mul (by omega)
          rw [e] at m1
          have two : ∀ n : Nat, n < 2 → n = 0 ∨ n = 1 := fun n h => by omega
          have c1 := two _ q1
          have c2 := two _ q2
          rcases c1 with c1 | c1 <;> rcases c2 with c2 | c2 <;> rw [c1] at m1 <;> rw [c2] at m2 <;> omega
      · refine ifF (fun z => s1 (by injection z with z; omega)) ?_
        refine ⟨_, rfl, rfl, ⟨_, rfl, ?_⟩⟩
        by_cases s2 : style = 2
        · refine ifT (hcat s2) ?_
          refine ⟨_, rfl, (k : Int), rfl, by omega, by omega, fun L hL => ?_⟩
          let g : Nat → Nat := fun s => if s = one then other else if s = other then one else s
          refine lc_it walk_range (fun i H6 => Same H5 H6 ∧ H6 L = some (.lst ((List.range i).map fun s => vN (g s)))) ⟨Same.upd hL, upd_same⟩ (fun _ _ _ _ => True.intro) ?_ ?_
          · rintro i x Hx H6 hi ⟨s6, h6⟩ ⟨rfl, ex⟩
            obtain rfl := yN ex
            have hi : i < ((k : Int)).toNat := hi
            rw [Int.toNat_natCast] at hi
            have app : ∀ {v : V}, v = vN (g i) → ∃ acc, H6 L = some (.lst acc) ∧ acc.length < sizeLine ∧ Same H5 (upd H6 L (.lst (acc ++ [v]))) ∧ upd H6 L (.lst (acc ++ [v])) L = some (.lst ((List.range (i + 1)).map fun s => vN (g s))) := fun {v} ev =>
              ⟨_, h6, by rw [List.length_map, List.length_range]; exact small1000 (by omega), s6.mut hL, by rw [upd_same, List.range_succ, List.map_append, ev]; rfl⟩
            refine ⟨rfl, yes ⟨_, rfl, _, rfl, rfl, _, rfl, ?_⟩⟩
            by_cases c1 : i = one
            · refine ifT (by rw [c1]) ⟨_, rfl, app ?_⟩
              show vN other = vN (g i)
              have : g i = other := if_pos c1
              rw [this]
            · refine ifF (fun z => c1 (by injection z with z; omega)) ⟨_, rfl, _, rfl, rfl, _, rfl, ?_⟩
              by_cases c2 : i = other
              · refine ifT (by rw [c2]) ⟨_, rfl, app ?_⟩
                have : g i = one := by show (if i = one then other else if i = other then one else i) = one; rw [if_neg c1, if_pos c2]
                rw [this]
              · refine ifF (fun z => c2 (by injection z with z; omega)) ⟨_, rfl, app ?_⟩
                have : g i = i := by show (if i = one then other else if i = other then one else i) = i; rw [if_neg c1, if_neg c2]
                rw [this]
          · rintro H6 ⟨s6, h6⟩
            rw [Int.toNat_natCast] at h6
            refine comp (g := g) b5 bx5 hL (fun s hs => ?_) (fun s hs t ht e => ?_) H6 s6 h6
            · show (if s = one then other else if s = other then one else s) < k
              split
              · exact h2
              · split
                · exact h1
                · exact hs
            · have e : (if s = one then other else if s = other then one else s) = (if t = one then other else if t = other then one else t) := e
              split at e <;> split at e <;> (try split at e) <;> (try split at e) <;> omega
        · refine ifF (fun z => s2 (by injection z with z; omega)) ?_
          exact ⟨_, rfl, _, rfl, b, k, rfl, bx5, k1, k2, fun q H6 F' b6 bx6 hq h6 arr => kk q H6 F' (b5.trans b6) bx6 (b5.newNone hq bx5.some) h6 arr⟩
    by_cases s0 : style = 0
    · refine ifT (hcat s0) ?_
      refine ⟨_, rfl, b, 2, rfl, bx4, by decide, by decide, fun d H5 hd b5 bx5 => ⟨rfl, _, rfl, ?_⟩⟩
      by_cases d0 : d = 0
      · refine ifT (by rw [d0]; rfl) ?_
        refine ⟨_, rfl, k, rfl, RgOk.of_le (by decide) (by omega) (by decide) (by omega), fun q hq => ?_⟩
        rw [rgV_range]
        have b45 := b4.trans b5
        exact kk q _ (List.range k) (b45.new hq) (bx5.keep fun o e => at_new e hq) (b45.newNone hq bx5.some) upd_same (arr_range k)
      · refine ifF (fun z => d0 (by injection z with z; omega)) ?_
        exact tail (b4.trans b5) bx5
    · refine ifF (fun z => s0 (by injection z with z; omega)) ?_
      exact iteF (tail b4 bx4)
end
end OWP

/-! ## W30 -/
/-! W30: the law's tables. -/
namespace OWP
open PySem PySem.Spec PyProof.Rows L2 OWR OW
/-- a table that arranges the first names among themselves -/
def RowOk (n inner : Nat) (N l : List Nat) : Prop := l.length = n ∧ (∀ x, x ∈ l → x < n) ∧ ∃ row, Arr inner row ∧ ∀ i, i < inner → l.getD (N.getD i 0) 0 = N.getD (row.getD i 0) 0
theorem mach_of {n inner j : Nat} {N : List Nat} {T : List (List Nat)} (a : Arr n N) (hin : inner ≤ n) (h4 : inner ≤ 4) (D1 : 1 ≤ T.length) (D2 : T.length ≤ 2) (rows : ∀ l, l ∈ T → RowOk n inner N l) (hj : j < inner) : ∃ S, Mach T (N.getD j 0) S := by
  classical
  have gi : ∀ i i', i < inner → i' < inner → N.getD i 0 = N.getD i' 0 → i = i' := fun i i' hi hi' e => nodup_getD a.nd (by rw [a.len]; omega) (by rw [a.len]; omega) e
  have act : ∀ d, d < T.length → ∃ row, Arr inner row ∧ ∀ i, i < inner → actT T d (N.getD i 0) = N.getD (row.getD i 0) 0 := fun d hd => (rows _ (getD_mem (x := []) hd)).2.2
  have come : ∀ x, RchA (actT T) T.length (N.getD j 0) x → ∃ i, i < inner ∧ x = N.getD i 0 := fun x ⟨u, hu, e⟩ => by
    have go : ∀ (u : List Nat) (i : Nat), Wd T.length u → i < inner → ∃ i', i' < inner ∧ runA (actT T) u (N.getD i 0) = N.getD i' 0 := by
      intro u
      induction u with
      | nil => intro i _ hi; exact ⟨i, hi, rfl⟩
      | cons d u ih =>
        intro i hu hi
        obtain ⟨row, ar, hr⟩ := act d hu.head
        rw [runA_cons, hr i hi]
        exact ih _ hu.tail (ar.getLt hi)
    obtain ⟨i', hi', e'⟩ := go u j hu hj
    exact ⟨i', hi', by rw [← e, e']⟩
  refine ⟨((List.range inner).map fun i => N.getD i 0).filter fun x => decide (RchA (actT T) T.length (N.getD j 0) x), ⟨D1, D2, (nodup_map List.nodup_range fun x hx y hy => gi x y (List.mem_range.mp hx) (List.mem_range.mp hy)).filter _, fun s => ?_, ?_, fun d hd s hs t ht e => ?_⟩⟩
  · rw [List.mem_filter]
    refine ⟨fun h => of_decide_eq_true h.2, fun h => ⟨?_, decide_eq_true h⟩⟩
    obtain ⟨i, hi, e⟩ := come s h
    exact List.mem_map.mpr ⟨i, List.mem_range.mpr hi, e.symm⟩
  · have := List.length_filter_le (fun x => decide (RchA (actT T) T.length (N.getD j 0) x)) ((List.range inner).map fun i => N.getD i 0)
    rw [List.length_map, List.length_range] at this
    omega
  · obtain ⟨i, hi, rfl⟩ := come s (of_decide_eq_true (List.mem_filter.mp hs).2)
    obtain ⟨i', hi', rfl⟩ := come t (of_decide_eq_true (List.mem_filter.mp ht).2)
    obtain ⟨row, ar, hr⟩ := act d hd
    rw [hr i hi, hr i' hi'] at e
    have e1 := gi _ _ (ar.getLt hi) (ar.getLt hi') e
    rw [nodup_getD ar.nd (by rw [ar.len]; exact hi) (by rw [ar.len]; exact hi') e1]
section
variable {P : Program} {w : World} {base : Heap} {K : PySem.W.Frag} {mg : Str → Option Value}
theorem ixN_n {n j : Nat} (hj : j < n) : ixN n (j : Int) = some j := by
  unfold ixN
  rw [if_pos (by omega), if_pos (by omega)]; rfl
theorem But.tkL {b : Addr} {H H1 : Hp} (x : But b H H1) (hb : BoxAt H b) : TK H H1 := fun c ys e => x c _ e fun z => by
  obtain ⟨g, r, h, _⟩ := hb
  rw [z, h] at e; cases e
def spTabl : Sp := fun vs H Q _ => ∃ (b : Addr) (most : Nat), vs = [.ref b, vN most, .int 2] ∧ BoxAt H b ∧ 1 ≤ most ∧ most ≤ 4 ∧
  ∀ q H' tq us T n f S, But b H H' → BoxAt H' b → H' q = some (.tup [.ref tq, vN f]) → H' tq = some (.tup us) → Paired (TI H') us T → Tabs T n → f < n → Mach T f S → Q (.ref q) H'
theorem scTabl : FnScope ["_law_box_here", "_law_most", "_law_deeds", "_law_inner", "_law_whole", "_law_names", "_law_tables_here", "_law_deed", "_law_row", "_law_table", "_law_state"] ["_law_box_here", "_law_most", "_law_deeds"] (defScope (topS 60)) := ⟨rfl, rfl, rfl, by decide +kernel, rfl, by decide +kernel, by decide +kernel⟩
theorem ok_tabl {f : Addr} {fd : FuncData} (F : Fun K "_law_tables" "_law_tables" (topS 60) f fd) (Z : Gls mg) (ct : Cal P w K mg base "_law_take" 1 ["_law_box_here", "_law_many"] spTake) (cm : Cal P w K mg base "_law_mixed" 2 ["_law_box_here", "_law_many"] spMixed) (ce : Cal P w K mg base "_law_exchange" 3 ["_law_box_here", "_law_many"] spMixed) : FnOk P w K mg base CX0 4 f fd ["_law_box_here", "_law_most", "_law_deeds"] spTabl := by
  refine F.ok scTabl (fun vs H Q E h => ?_) (fun cdv A outer s0 H vs Q E hr h => ?_)
  · obtain ⟨b, most, rfl, _⟩ := h; rfl
  · obtain ⟨b, most, rfl, hb, m1, m4, kk⟩ := h
    have hr1 : Room 1 _ := Room.mono hr (by decide)
    refine ⟨_, pss_cons (ps_set (i := 3) scTabl.nd rfl (Or.inl rfl) (pe_op op_add pe_int (pe_cal ct hr1 (by rfl) (pa_cons (pv 0) (pa_cons (pv 1) pa_nil)))))
      (pss_cons (ps_set (i := 4) scTabl.nd rfl (Or.inl rfl) (pe_op op_add (pv 3) (pe_ifExp (pt_cmpR op_eq (pe_cal ct hr1 (by rfl) (pa_cons (pv 0) (pa_cons pe_int pa_nil))) pe_int (nomark _)) (pe_cal ct hr1 (by rfl) (pa_cons (pv 0) (pa_cons (pe_op op_sub pe_int (pv 3)) pa_nil))) pe_int)))
      (pss_cons (ps_par (i := 5) (j := 6) rfl scTabl.nd rfl rfl (by decide) rfl rfl (pa_cons (pe_cal cm (hr.mono (by decide)) (by rfl) (pa_cons (pv 0) (pa_cons (pv 4) pa_nil))) (pa_cons (pe_lst pa_nil) pa_nil)) (by rfl))
      (pss_cons (ps_for PassesOwn.never rfl (pi_range1 (by rfl) Z.range (pa_cons (pe_op op_add pe_int (pe_cal ct hr1 (by rfl) (pa_cons (pv 0) (pa_cons (pv 2) pa_nil)))) pa_nil)) (pg_name (i := 7) scTabl.nd rfl (Or.inl rfl))
        (pss_cons (ps_par (i := 8) (j := 9) rfl scTabl.nd rfl rfl (by decide) rfl rfl (pa_cons (pe_cal ce hr (by rfl) (pa_cons (pv 0) (pa_cons (pv 3) pa_nil))) (pa_cons (pe_op op_rep (pe_lst (pa_cons pe_int pa_nil)) (pv 4)) pa_nil)) (by rfl))
        (pss_cons (ps_for PassesOwn.never rfl (pi_range1 (by rfl) Z.range (pa_cons (pv 4) pa_nil)) (pg_name (i := 10) scTabl.nd rfl (Or.inl rfl))
          (pss_one (ps_asg (pe_ifExp (pt_cmpR op_lt (pv 10) (pv 3) (nomark _)) (pe_ix ix_list (pv 5) (pe_ix ix_list (pv 8) (pv 10) (fun _ _ => rfl)) (fun _ _ => rfl)) (pe_cal ct hr1 (by rfl) (pa_cons (pv 0) (pa_cons (pv 4) pa_nil)))) (pg_sub (pv 9) (pe_ix ix_list (pv 5) (pv 10) (fun _ _ => rfl)) set_list))))
        (pss_one (ps_expr (pe_bm PySem.F.plainAttrs_list PySem.F.slot_list_append PySem.F.type_list_append mt_append (pv 6) (pa_cons (pe_callTy call_tuple_of (by rfl) Z.tuple (by decide +kernel) (pa_cons (pv 9) pa_nil)) pa_nil)))))))
      (pss_one (ps_ret (pe_tup (pa_cons (pe_callTy call_tuple_of (by rfl) Z.tuple (by decide +kernel) (pa_cons (pv 6) pa_nil)) (pa_cons (pe_ix ix_list (pv 5) (pe_cal ct hr1 (by rfl) (pa_cons (pv 0) (pa_cons (pv 3) pa_nil))) (fun _ _ => rfl)) pa_nil)))))))), ?_⟩
    refine ⟨_, rfl, _, rfl, b, most, rfl, hb, m1, by omega, fun d1 H1 h1 b1 bx1 => ⟨_, _, rfl, rfl, ?_⟩⟩
    have whole : ∀ (Q' : VK), (∀ d H3, d ≤ 7 - d1 → But b H H3 → BoxAt H3 b → Q' (vN d) H3) → tIf (tTest (tOp rEq (tCall spTake [] E0 (tCons (tVar 0) (tCons (tC (.int 4)) tNil))) (tC (.int 0)))) (tCall spTake [] E0 (tCons (tVar 0) (tCons (tOp (rI0 fun i j => .int (i - j)) (tC (.int 9)) (tVar 3)) tNil))) (tC (.int 0)) [some (.ref b), some (vN most), some (.int 2), some (vN (1 + d1)), none, none, none, none, none, none, none] H1 Q' := fun Q' k => by
      refine ⟨_, rfl, b, 4, rfl, bx1, by decide, by decide, fun d2 H2 h2 b2 bx2 => ⟨rfl, _, rfl, ?_⟩⟩
      by_cases z : d2 = 0
      · refine ifT (by rw [z]; rfl) ?_
        have e9 : (9 : Int) - ((1 + d1 : Nat) : Int) = ((8 - d1 : Nat) : Int) := by omega
        refine ⟨_, rfl, _, rfl, _, _, rfl, rfl, b, 8 - d1, ?_, bx2, by omega, by omega, fun d3 H3 h3 b3 bx3 => k d3 H3 (by omega) ((b1.trans b2).trans b3) bx3⟩
        show [V.ref b, V.int ((9 : Int) - ((1 + d1 : Nat) : Int))] = _
        rw [e9]
      · refine ifF (fun q => z (by injection q with q; omega)) ?_
        exact k 0 H2 (by omega) (b1.trans b2) bx2
    refine ⟨_, rfl, whole _ fun d3 H3 hd3 b3 bx3 => ⟨_, _, rfl, rfl, ?_⟩⟩
    have hin : 1 + d1 ≤ 1 + d1 + d3 := by omega
    have hn8 : 1 + d1 + d3 ≤ 8 := by omega
    have hi4 : 1 + d1 ≤ 4 := by omega
    generalize hW : 1 + d1 + d3 = n at hin hn8
    generalize hI : 1 + d1 = I at hin hi4
    have eI : ((fun i j : Int => V.int (i + j)) 1 (d1 : Int)) = vN I := by rw [← hI]; rfl
    have eW : ((fun i j : Int => V.int (i + j)) (1 + (d1 : Int)) (d3 : Int)) = vN n := by rw [← hW]; rfl
    show tSeq _ _ _ [some (.ref b), some (vN most), some (.int 2), some ((fun i j : Int => V.int (i + j)) 1 (d1 : Int)), some ((fun i j : Int => V.int (i + j)) (1 + (d1 : Int)) (d3 : Int)), none, none, none, none, none, none] H3
    rw [eI, eW]
    have hI1 : 1 ≤ I := by omega
    have b03 := b3
    refine ⟨_, rfl, _, rfl, b, n, rfl, bx3, by omega, by omega, fun nl H4 N b4 bx4 hnl0 hnl aN => ⟨(by show 0 ≤ sizeLine; decide), fun tl htl => ⟨_, _, rfl, ?_⟩⟩⟩
    have b05 := (b03.trans b4).new (o := .lst []) htl
    have tl0 := (b03.trans b4).newNone htl bx4.some
    have nl0 := b03.newNone hnl0 bx3.some
    obtain ⟨ob, hob⟩ := hb.some
    have nbn : nl ≠ b := (ne_of_none hob nl0).symm
    have nbt : tl ≠ b := (ne_of_none hob tl0).symm
    have nnt : nl ≠ tl := ne_of_none hnl htl
    have bx5 : BoxAt (upd H4 tl (.lst [])) b := bx4.keep fun o e => at_new e htl
    have nl5 := at_new (o := .lst []) hnl htl
    have tl5 := upd_same (H := H4) (a := tl) (o := .lst [])
    generalize upd H4 tl (.lst []) = H5 at b05 bx5 nl5 tl5 ⊢
    refine ⟨_, rfl, _, rfl, b, 2, rfl, bx5, by decide, by decide, fun d4 H6 h4 b6 bx6 => ⟨_, _, rfl, rfl, (1 : Int) + (d4 : Int), rfl, by omega, by omega, ?_⟩⟩
    have e14 : ((1 : Int) + (d4 : Int)).toNat = 1 + d4 := by omega
    refine for_it walk_range (fun i σ H7 => ∃ (T : List (List Nat)) (us : List V) (x7 x8 x9 x10 : Option V), σ = [some (.ref b), some (vN most), some (.int 2), some (vN I), some (vN n), some (.ref nl), some (.ref tl), x7, x8, x9, x10] ∧ But b H H7 ∧ BoxAt H7 b ∧ H7 nl = some (.lst (N.map vN)) ∧ H7 tl = some (.lst us) ∧ Paired (TI H7) us T ∧ T.length = i ∧ ∀ l, l ∈ T → RowOk n I N l)
      ⟨[], [], _, _, _, _, rfl, b05.trans b6, bx6, b6 _ _ nl5 nbn, b6 _ _ tl5 nbt, .nil, rfl, fun _ h => nomatch h⟩ (fun _ _ _ _ _ => True.intro) ?_ ?_
    · rintro i x σ H7 H7' hi ⟨T, us, x7, x8, x9, x10, rfl, b7, bx7, nl7, tl7, pT, lT, rows⟩ ⟨rfl, ex⟩
      rw [e14] at hi
      refine ⟨_, rfl, _, rfl, b, I, rfl, bx7, by omega, by omega, fun rl H8 row b8 bx8 hrl0 hrl aR => ⟨(by show 1 ≤ sizeLine; decide), fun z0 hz0 => ⟨_, rfl, z0, (n : Int), [V.int 0], rfl, rfl, upd_same, by omega, by omega, ?_, fun ml hml => ⟨_, _, rfl, ?_⟩⟩⟩⟩
      · have : 1 * ((n : Int)).toNat ≤ sizeLine := Nat.le_of_lt (small1000 (by omega))
        exact this
      have ez : (List.replicate ((n : Int)).toNat [V.int 0]).flatten = (List.replicate n 0).map vN := by
        rw [Int.toNat_natCast, List.map_replicate]
        have : ∀ n, (List.replicate n [V.int 0]).flatten = List.replicate n (vN 0) := fun n => by
          induction n with
          | zero => rfl
          | succ n ih => rw [List.replicate_succ, List.flatten_cons, ih]; rfl
        exact this n
      rw [ez]
      have rl0 := b7.newNone hrl0 bx7.some
      have nbr : rl ≠ b := (ne_of_none hob rl0).symm
      have b08 := b7.trans b8
      have b09 := b08.new (o := .lst [V.int 0]) hz0
      have bx9 : BoxAt (upd H8 z0 (.lst [V.int 0])) b := bx8.keep fun o e => at_new e hz0
      have ml0 := b09.newNone hml bx9.some
      have nl9 := at_new (o := .lst [V.int 0]) (b8 _ _ nl7 nbn) hz0
      have tl9 := at_new (o := .lst [V.int 0]) (b8 _ _ tl7 nbt) hz0
      have rl9 := at_new (o := .lst [V.int 0]) hrl hz0
      have k79 : TK H7' (upd H8 z0 (.lst [V.int 0])) := (b8.tkL bx7).trans (TK.new hz0)
      have p9 := pmap pT fun _ _ z => z.keep k79
      generalize upd H8 z0 (.lst [V.int 0]) = H9 at b09 bx9 ml0 nl9 tl9 rl9 k79 p9 hml ⊢
      have nbm : ml ≠ b := (ne_of_none hob ml0).symm
      have nnm : nl ≠ ml := ne_of_none nl9 hml
      have ntm : tl ≠ ml := ne_of_none tl9 hml
      have nrm : rl ≠ ml := ne_of_none rl9 hml
      refine ⟨_, rfl, (n : Int), rfl, by omega, by omega, ?_⟩
      refine for_it walk_range (fun j σ HA => ∃ (L : List Nat) (y10 : Option V), σ = [some (.ref b), some (vN most), some (.int 2), some (vN I), some (vN n), some (.ref nl), some (.ref tl), some x, some (.ref rl), some (.ref ml), y10] ∧ But b H HA ∧ BoxAt HA b ∧ HA nl = some (.lst (N.map vN)) ∧ HA tl = some (.lst us) ∧ HA rl = some (.lst (row.map vN)) ∧ HA ml = some (.lst (L.map vN)) ∧ Paired (TI HA) us T ∧ L.length = n ∧ (∀ x, x ∈ L → x < n) ∧ ∀ i', i' < j → i' < I → L.getD (N.getD i' 0) 0 = N.getD (row.getD i' 0) 0)
        ⟨List.replicate n 0, _, rfl, b09.new hml, bx9.keep fun o e => at_new e hml, at_new nl9 hml, at_new tl9 hml, at_new rl9 hml, upd_same, pmap p9 fun _ _ z => z.keep (TK.new hml), List.length_replicate, fun x hx => by rw [List.eq_of_mem_replicate hx]; omega, fun i' h => by omega⟩ (fun _ _ _ _ _ => True.intro) ?_ ?_
      · rintro j y σ HA HA' hj ⟨L, y10, rfl, bA, bxA, nlA, tlA, rlA, mlA, pA, lL, ltL, eqL⟩ ⟨rfl, ey⟩
        obtain rfl := yN ey
        rw [Int.toNat_natCast] at hj
        have hNj : N.getD j 0 < n := aN.getLt hj
        have store : ∀ v HB, But b HA' HB → BoxAt HB b → v < n → (j < I → v = N.getD (row.getD j 0) 0) → ∃ (L2 : List Nat) (y : Option V), [some (V.ref b), some (vN most), some (.int 2), some (vN I), some (vN n), some (.ref nl), some (.ref tl), some x, some (.ref rl), some (.ref ml), some (vN j)] = [some (V.ref b), some (vN most), some (.int 2), some (vN I), some (vN n), some (.ref nl), some (.ref tl), some x, some (.ref rl), some (.ref ml), y] ∧ But b H (upd HB ml (.lst ((L.map vN).set (N.getD j 0) (vN v)))) ∧ BoxAt (upd HB ml (.lst ((L.map vN).set (N.getD j 0) (vN v)))) b ∧ upd HB ml (.lst ((L.map vN).set (N.getD j 0) (vN v))) nl = some (.lst (N.map vN)) ∧ upd HB ml (.lst ((L.map vN).set (N.getD j 0) (vN v))) tl = some (.lst us) ∧ upd HB ml (.lst ((L.map vN).set (N.getD j 0) (vN v))) rl = some (.lst (row.map vN)) ∧ upd HB ml (.lst ((L.map vN).set (N.getD j 0) (vN v))) ml = some (.lst (L2.map vN)) ∧ Paired (TI (upd HB ml (.lst ((L.map vN).set (N.getD j 0) (vN v))))) us T ∧ L2.length = n ∧ (∀ x, x ∈ L2 → x < n) ∧ ∀ i', i' < j + 1 → i' < I → L2.getD (N.getD i' 0) 0 = N.getD (row.getD i' 0) 0 := fun v HB bB bxB hv hvj => by
          have mlB := bB _ _ mlA nbm
          have kB := (bB.tkL bxA).trans (TK.lst mlB (o := .lst ((L.map vN).set (N.getD j 0) (vN v))))
          refine ⟨L.set (N.getD j 0) v, _, rfl, (bA.trans bB).mut ml0, bxB.keep fun o e => by rw [upd_ne nbm.symm]; exact e, by rw [upd_ne nnm]; exact bB _ _ nlA nbn, by rw [upd_ne ntm]; exact bB _ _ tlA nbt, by rw [upd_ne nrm]; exact bB _ _ rlA nbr, by rw [upd_same, List.map_set], pmap pA fun _ _ z => z.keep kB, by rw [List.length_set]; exact lL, fun x hx => ?_, fun i' h1' h2' => ?_⟩
          · rcases List.mem_or_eq_of_mem_set hx with h | h
            · exact ltL x h
            · rw [h]; exact hv
          · rw [getD_set]
            by_cases z : i' = j
            · subst z
              rw [if_pos ⟨rfl, by omega⟩]; exact hvj h2'
            · have : ¬ N.getD j 0 = N.getD i' 0 := fun e => z (nodup_getD aN.nd (by rw [aN.len]; omega) (by rw [aN.len]; omega) e).symm
              rw [if_neg fun q => this q.1]
              exact eqL i' (by omega) h2'
        have atN : ∀ {HB : Hp}, HB nl = some (.lst (N.map vN)) → atI (N.map vN) ((j : Nat) : Int) = some (vN (N.getD j 0)) := fun _ => at_vN (by rw [aN.len]; exact hj)
        refine ⟨_, rfl, _, rfl, _, _, rfl, rfl, ⟨_, rfl, ?_⟩⟩
        by_cases hjI : j < I
        · refine ifT (by omega) ?_
          have hrj : row.getD j 0 < I := aR.getLt hjI
          refine ⟨_, rfl, _, rfl, _, rfl, rl, _, _, _, rfl, rfl, .of rlA, at_vN (by rw [aR.len]; exact hjI), nl, _, _, _, rfl, rfl, .of nlA, at_vN (by rw [aN.len]; omega), ?_⟩
          refine ⟨_, rfl, _, rfl, _, rfl, nl, _, _, _, rfl, rfl, .of nlA, atN nlA, ml, _, _, _, rfl, rfl, mlA, ixN_n (by rw [List.length_map, lL]; exact hNj), ?_⟩
          exact store _ HA' But.refl bxA (aN.getLt (by omega)) fun _ => rfl
        · refine ifF (by omega) ?_
          refine ⟨_, rfl, _, rfl, b, n, rfl, bxA, by omega, by omega, fun v HB hv bB bxB => ?_⟩
          refine ⟨_, rfl, _, rfl, _, rfl, nl, _, _, _, rfl, rfl, .of (bB _ _ nlA nbn), atN nlA, ml, _, _, _, rfl, rfl, bB _ _ mlA nbm, ixN_n (by rw [List.length_map, lL]; exact hNj), ?_⟩
          exact store v HB bB bxB hv fun h => absurd h hjI
      · rintro σ HA ⟨L, y10, rfl, bA, bxA, nlA, tlA, rlA, mlA, pA, lL, ltL, eqL⟩
        rw [Int.toNat_natCast] at eqL
        have lus : us.length = T.length := plen pA
        refine ⟨_, rfl, .inl ⟨rfl, _, .of tlA⟩, _, rfl, ml, _, rfl, .inl ⟨.of mlA, fun t ht => ?_⟩⟩
        have tlB := at_new (o := .tup (L.map vN)) tlA ht
        have kB := (TK.new (o := .tup (L.map vN)) ht).trans (TK.lst tlB (o := .lst (us ++ [V.ref t])))
        have ntt : tl ≠ t := ne_of_none tlA ht
        refine ⟨tl, us, _, rfl, rfl, tlB, small1000 (by omega), ?_⟩
        refine ⟨T ++ [L], us ++ [V.ref t], _, _, _, _, rfl, (bA.new ht).mut tl0, bxA.keep fun o e => by rw [upd_ne nbt.symm]; exact at_new e ht, by rw [upd_ne nnt]; exact at_new nlA ht, upd_same, psnoc (pmap pA fun _ _ z => z.keep kB) ⟨t, rfl, by rw [upd_ne ntt.symm, upd_same]⟩, by rw [List.length_append, lT]; rfl, fun l hl => ?_⟩
        obtain hl | hl := List.mem_append.mp hl
        · exact rows l hl
        · rw [List.eq_of_mem_singleton hl]
          exact ⟨lL, ltL, row, aR, fun i' hi' => eqL i' (by omega) hi'⟩
    · rintro σ H7 ⟨T, us, x7, x8, x9, x10, rfl, b7, bx7, nl7, tl7, pT, lT, rows⟩
      rw [e14] at lT
      refine ⟨_, rfl, tl, _, rfl, .inl ⟨.of tl7, fun tq htq => ?_⟩⟩
      have b8 := b7.new (o := .tup us) htq
      have bx8 : BoxAt (upd H7 tq (.tup us)) b := bx7.keep fun o e => at_new e htq
      refine ⟨_, rfl, _, rfl, _, rfl, b, I, rfl, bx8, by omega, by omega, fun j H9 hj b9 bx9 => ?_⟩
      have nbq : tq ≠ b := fun z => by obtain ⟨o, e⟩ := bx7.some; rw [z, e] at htq; cases htq
      have nl9 := b9 _ _ (at_new (o := .tup us) nl7 htq) nbn
      have tq9 := b9 _ _ (upd_same (H := H7) (a := tq) (o := .tup us)) nbq
      have k9 := (TK.new (o := .tup us) htq).trans (b9.tkL bx8)
      refine ⟨nl, _, _, _, rfl, rfl, .of nl9, at_vN (by rw [aN.len]; omega), (by show 2 ≤ sizeLine; decide), fun q hq => ?_⟩
      obtain ⟨S, M⟩ := mach_of (T := T) (j := j) aN hin hi4 (by omega) (by omega) rows hj
      have b09 := b8.trans b9
      refine kk q _ tq us T n (N.getD j 0) S (b09.new hq) (bx9.keep fun o e => at_new e hq) upd_same (at_new tq9 hq) (pmap pT fun _ _ z => z.keep (k9.trans (TK.new hq))) ⟨by omega, by omega, fun l hl => ⟨(rows l hl).1, (rows l hl).2.1⟩, by omega, hn8⟩ (aN.getLt (by omega)) M
end
end OWP

/-! ## W31 -/
/-! W31: the states that come, as the law counts them. -/
namespace OWP
open PySem PySem.Spec PyProof.Rows L2 OWR OW
section
variable {P : Program} {w : World} {base : Heap} {K : PySem.W.Frag} {mg : Str → Option Value}
def spCome : Sp := fun vs H Q _ => ∃ (tt : Addr) (us : List V) (T : List (List Nat)) (n f : Nat) (S : List Nat), vs = [.ref tt, vN f] ∧ H tt = some (.tup us) ∧ Paired (TI H) us T ∧ Tabs T n ∧ f < n ∧ Mach T f S ∧ ∀ q H' xs, Same H H' → H' q = some (.lst xs) → xs.length = S.length → Q (.ref q) H'
theorem scCome : FnScope ["_law_tables_here", "_law_first", "_law_found", "_law_turn", "_law_table"] ["_law_tables_here", "_law_first"] (defScope (topS 61)) := ⟨rfl, rfl, rfl, by decide +kernel, rfl, by decide +kernel, by decide +kernel⟩
theorem ok_come {f : Addr} {fd : FuncData} (F : Fun K "_law_come" "_law_come" (topS 61) f fd) (Z : Gls mg) : FnOk P w K mg base CX0 1 f fd ["_law_tables_here", "_law_first"] spCome := by
  refine F.ok scCome (fun vs H Q E h => ?_) (fun cdv A outer s0 H vs Q E hr h => ?_)
  · obtain ⟨tt, us, T, n, f, S, rfl, _⟩ := h; rfl
  · obtain ⟨tt, us, T, n, f, S, rfl, htt, hT, tb, hf, M, k⟩ := h
    have hlen : us.length = T.length := plen hT
    refine ⟨_, pss_cons (ps_set (i := 2) scCome.nd rfl (Or.inl rfl) (pe_lst (pa_cons (pv 1) pa_nil)))
      (pss_cons (ps_for PassesOwn.never rfl (pi_range1 (by rfl) Z.range (pa_cons pe_int pa_nil)) (pg_name (i := 3) scCome.nd rfl (Or.inl rfl))
        (pss_one (ps_if (pt_cmpR op_lt (pv 3) (pe_callB call_len_seq (by rfl) Z.len (by decide +kernel) (pa_cons (pv 2) pa_nil)) (nomark _))
          (pss_one (ps_for PassesOwn.never rfl (pi_tup (pv 0)) (pg_name (i := 4) scCome.nd rfl (Or.inl rfl))
            (pss_one (ps_if (pt_cmpR op_notIn_seq (pe_ix ix_tup (pv 4) (pe_ix ix_list (pv 2) (pv 3) (fun _ _ => rfl)) (fun _ _ => rfl)) (pv 2) (by rfl))
              (pss_one (ps_expr (pe_bm PySem.F.plainAttrs_list PySem.F.slot_list_append PySem.F.type_list_append mt_append (pv 2) (pa_cons (pe_ix ix_tup (pv 4) (pe_ix ix_list (pv 2) (pv 3) (fun _ _ => rfl)) (fun _ _ => rfl)) pa_nil)))) pss_nil)))) pss_nil)))
      (pss_one (ps_ret (pe_callB cr_sortedI (by rfl) Z.sorted (by decide +kernel) (pa_cons (pv 2) pa_nil))))), ?_⟩
    have n8 := tb.n8
    refine ⟨_, rfl, (by show 1 ≤ sizeLine; decide), fun ol hol => ?_⟩
    have s1 : Same H (upd H ol (.lst [vN f])) := Same.upd hol
    have o1 := upd_same (H := H) (a := ol) (o := .lst [vN f])
    generalize upd H ol (.lst [vN f]) = H1 at s1 o1 ⊢
    refine ⟨8, rfl, by decide, by decide, ?_⟩
    refine for_it walk_range (fun t σ H2 => ∃ (at' : Nat) (F : List Nat) (x y : Option V), σ = [some (.ref tt), some (vN f), some (.ref ol), x, y] ∧ Same H H2 ∧ H2 ol = some (.lst (F.map vN)) ∧ OI T f n F at' 0 ∧ at' ≤ F.length ∧ (at' = t ∨ (at' = F.length ∧ at' ≤ t)))
      ⟨0, [f], _, _, rfl, s1, o1, ⟨by simp, by simp, fun x hx => by simp at hx; subst hx; exact RchA.start, fun x hx => by simp at hx; subst hx; exact hf, fun j hj => by omega, fun d hd => by omega⟩, Nat.zero_le _, .inl rfl⟩ (fun _ _ _ _ _ => True.intro) ?_ ?_
    · rintro t x σ H2 H2' ht ⟨at', F, x0, y0, rfl, s2, o2, oi, hle, hat⟩ ⟨rfl, ex⟩
      obtain rfl := yN ex
      have lF := oi.len
      refine ⟨_, rfl, _, rfl, ol, _, rfl, .inl (.of o2), _, _, rfl, rfl, _, rfl, ?_⟩
      refine ite2 (fun hpos => ?_) (fun hz => ?_)
      · have hlt : t < F.length := by have := of_decide_eq_true hpos; rw [List.length_map] at this; omega
        have eat : at' = t := by omega
        subst eat
        refine ⟨_, rfl, tt, rfl, ⟨us, .inl (.inl (s2 _ _ htt))⟩, ?_⟩
        refine for_tup (K := K) (a := tt) (xs := us) (fun i σ2 H3 => ∃ (F2 : List Nat) (y : Option V), at' < F2.length ∧ σ2 = [some (.ref tt), some (vN f), some (.ref ol), some (vN at'), y] ∧ Same H H3 ∧ H3 ol = some (.lst (F2.map vN)) ∧ OI T f n F2 at' i)
          ⟨F, _, hlt, rfl, s2, o2, oi⟩ (fun i σ H3 _ ⟨_, _, _, _, z, _⟩ => .inl (.inl (z _ _ htt))) ?_ ?_
        · rintro i u σ2 H3 hu ⟨F2, x2, hl2, rfl, s3, o3, oi3⟩
          obtain ⟨l, hl, ⟨b, rfl, hb⟩⟩ := pget hT hu
          have hi : i < T.length := (List.getElem?_eq_some_iff.mp hl).1
          have hln : l.length = n := (tb.row l (List.mem_of_getElem? hl)).1
          have sel2 := oi3.lt _ (getD_mem (x := 0) hl2)
          have eact : atI (l.map vN) ((F2.getD at' 0 : Nat) : Int) = some (vN (actT T i (F2.getD at' 0))) := by
            have : l.getD (F2.getD at' 0) 0 = actT T i (F2.getD at' 0) := by unfold actT; rw [List.getD_eq_getElem?_getD (l := T), hl]; rfl
            rw [← this]; exact at_vN (by omega)
          have lF2 := oi3.len
          refine ⟨_, rfl, _, rfl, _, rfl, ol, _, _, _, rfl, rfl, .of o3, at_vN hl2, b, _, _, _, rfl, rfl, .inl (.inl (s3 _ _ hb)), eact, _, rfl, ol, _, rfl, .inl (.of o3), rfl, flat_vN _, ?_⟩
          rw [inV_vN]
          refine ⟨_, rfl, ?_⟩
          by_cases hin : actT T i (F2.getD at' 0) ∈ F2
          · rw [decide_eq_true hin]
            exact iteF ⟨F2, _, hl2, rfl, s3, o3, oi3.old hin⟩
          · rw [decide_eq_false hin]
            refine iteT ⟨_, rfl, .inl ⟨rfl, _, .of o3⟩, _, rfl, _, rfl, _, rfl, ol, _, _, _, rfl, rfl, .of o3, at_vN hl2, b, _, _, _, rfl, rfl, .inl (.inl (s3 _ _ hb)), eact, ol, _, _, rfl, rfl, o3, by rw [List.length_map]; exact small1000 (by omega), ?_⟩
            exact ⟨F2 ++ [actT T i (F2.getD at' 0)], _, by rw [List.length_append]; omega, rfl, s3.mut hol, by rw [upd_same, List.map_append]; rfl, oi3.add tb hl2 hi hin⟩
        · rintro σ2 H3 ⟨F2, x2, hl2, rfl, s3, o3, oi3⟩
          rw [hlen] at oi3
          exact ⟨at' + 1, F2, _, _, rfl, s3, o3, oi3.next, hl2, .inl rfl⟩
      · have hge : F.length ≤ t := by
          have : ¬ ((t : Int) < ((F.map vN).length : Int)) := fun z => hz (decide_eq_true z)
          rw [List.length_map] at this; omega
        exact ⟨at', F, _, _, rfl, s2, o2, oi, hle, .inr ⟨by omega, by omega⟩⟩
    · rintro σ H2 ⟨at', F, x0, y0, rfl, s2, o2, oi, hle, hat⟩
      have lF := oi.len
      have hat : at' = 8 ∨ (at' = F.length ∧ at' ≤ 8) := hat
      obtain ⟨cl, mem⟩ := oi.all (by omega)
      obtain ⟨_, lFS⟩ := M.other oi.nd mem
      refine ⟨_, rfl, ol, F.map fun x : Nat => (x : Int), rfl, .of (by rw [o2, List.map_map]; rfl), fun ns p hperm _ hp => ?_⟩
      refine k p _ (ns.map V.int) (s2.new hp) upd_same ?_
      rw [List.length_map, hperm.length_eq, List.length_map]; exact lFS
end
end OWP

/-! ## W32 -/
/-! W32: what the law's own search for clashes keeps. -/
namespace OWP
open PySem PySem.Spec PyProof.Rows L2 OWR OW
abbrev Cf := Nat × Nat × List Nat
def stepC (T W : List (List Nat)) (R : List Nat) (d : Nat) (x : Cf) : Cf := (actT T d x.1, actT W d x.2.1, x.2.2.set d ((x.2.2.getD d 0 + 1) % rd R d))
def x0C (D f : Nat) : Cf := (f, 0, List.replicate D 0)
section
variable {T W : List (List Nat)} {R : List Nat} {D f : Nat}
theorem ext_getD {l m : List Nat} (h : l.length = m.length) (g : ∀ i, i < l.length → l.getD i 0 = m.getD i 0) : l = m := by
  refine List.ext_getElem h fun i h1 h2 => ?_
  have := g i h1
  rw [getD_at h1, getD_at h2] at this
  exact this
theorem run_step (hR : ∀ d, d < D → 1 ≤ rd R d) : ∀ (w : List Nat) (x : Cf), Wd D w → x.2.2.length = D → (∀ d, d < D → x.2.2.getD d 0 < rd R d) →
    (runA (stepC T W R) w x).1 = runA (actT T) w x.1 ∧ (runA (stepC T W R) w x).2.1 = runA (actT W) w x.2.1 ∧ (runA (stepC T W R) w x).2.2.length = D ∧ ∀ d, d < D → (runA (stepC T W R) w x).2.2.getD d 0 = (x.2.2.getD d 0 + w.count d) % rd R d
  | [], x, _, hl, hc => ⟨rfl, rfl, hl, fun d hd => by
    show x.2.2.getD d 0 = (x.2.2.getD d 0 + 0) % rd R d
    rw [Nat.add_zero, Nat.mod_eq_of_lt (hc d hd)]⟩
  | e :: w, x, hw, hl, hc => by
    have he := hw.head
    have hl2 : (stepC T W R e x).2.2.length = D := by show (x.2.2.set e _).length = D; rw [List.length_set]; exact hl
    have hg : ∀ d, (stepC T W R e x).2.2.getD d 0 = if e = d ∧ e < x.2.2.length then (x.2.2.getD e 0 + 1) % rd R e else x.2.2.getD d 0 := fun d => getD_set _ _ _ _ _
    have hc2 : ∀ d, d < D → (stepC T W R e x).2.2.getD d 0 < rd R d := fun d hd => by
      rw [hg]
      split
      · rename_i q; rw [q.1]; exact Nat.mod_lt _ (hR d hd)
      · exact hc d hd
    obtain ⟨a1, a2, a3, a4⟩ := run_step hR w (stepC T W R e x) hw.tail hl2 hc2
    refine ⟨a1, a2, a3, fun d hd => ?_⟩
    rw [runA_cons, a4 d hd, hg, List.count_cons]
    by_cases z : e = d
    · subst z
      rw [if_pos ⟨rfl, by omega⟩]
      simp only [if_true, beq_self_eq_true]
      rw [Nat.mod_add_mod]
      congr 1; omega
    · rw [if_neg fun q => z q.1]
      simp [z]
theorem start_ok (hR : ∀ d, d < D → 1 ≤ rd R d) : (x0C D f).2.2.length = D ∧ ∀ d, d < D → (x0C D f).2.2.getD d 0 = 0 := ⟨List.length_replicate, fun d hd => by
  show (List.replicate D 0).getD d 0 = 0
  rw [List.getD_eq_getElem?_getD, List.getElem?_replicate, if_pos hd]; rfl⟩
theorem run_start (hR : ∀ d, d < D → 1 ≤ rd R d) {w : List Nat} (hw : Wd D w) :
    (runA (stepC T W R) w (x0C D f)).1 = runA (actT T) w f ∧ (runA (stepC T W R) w (x0C D f)).2.1 = runA (actT W) w 0 ∧ (runA (stepC T W R) w (x0C D f)).2.2.length = D ∧ ∀ d, d < D → (runA (stepC T W R) w (x0C D f)).2.2.getD d 0 = w.count d % rd R d := by
  obtain ⟨s1, s2⟩ := start_ok (f := f) hR
  obtain ⟨a1, a2, a3, a4⟩ := run_step (T := T) (W := W) hR w (x0C D f) hw s1 fun d hd => by rw [s2 d hd]; exact hR d hd
  refine ⟨a1, a2, a3, fun d hd => ?_⟩
  rw [a4 d hd, s2 d hd, Nat.zero_add]
theorem tells_iff (hD : T.length = D) (hR : ∀ d, d < D → 1 ≤ rd R d) : Tells T f (rd R) W ↔ ∀ x y, RchA (stepC T W R) D (x0C D f) x → RchA (stepC T W R) D (x0C D f) y → x.2 = y.2 → x.1 = y.1 := by
  subst hD
  constructor
  · rintro ht x y ⟨u, hu, rfl⟩ ⟨v, hv, rfl⟩ e
    obtain ⟨a1, a2, a3, a4⟩ := run_start (T := T) (W := W) (f := f) hR hu
    obtain ⟨b1, b2, b3, b4⟩ := run_start (T := T) (W := W) (f := f) hR hv
    rw [a1, b1]
    refine ht u v hu hv (fun d hd => ?_) ?_
    · rw [← a4 d hd, ← b4 d hd, e]
    · rw [← a2, ← b2, e]
  · intro h u v hu hv c e
    obtain ⟨a1, a2, a3, a4⟩ := run_start (T := T) (W := W) (f := f) hR hu
    obtain ⟨b1, b2, b3, b4⟩ := run_start (T := T) (W := W) (f := f) hR hv
    have := h _ _ ⟨u, hu, rfl⟩ ⟨v, hv, rfl⟩ (Prod.ext (by rw [a2, b2]; exact e) (ext_getD (by rw [a3, b3]) fun i hi => by
      rw [a3] at hi
      rw [a4 i hi, b4 i hi]; exact c i hi))
    rw [a1, b1] at this
    exact this
/-- what is known of each thing that comes -/
structure CfOk (D m : Nat) (S R : List Nat) (x : Cf) : Prop where
  s : x.1 ∈ S
  a : x.2.1 < m
  len : x.2.2.length = D
  c : ∀ d, d < D → x.2.2.getD d 0 < rd R d
theorem cf_ok {S : List Nat} {m : Nat} (M : Mach T f S) (hD : T.length = D) (hW : Wit D m W) (hm : 1 ≤ m) (hR : ∀ d, d < D → 1 ≤ rd R d) {x : Cf} (h : RchA (stepC T W R) D (x0C D f) x) : CfOk D m S R x := by
  subst hD
  obtain ⟨u, hu, rfl⟩ := h
  obtain ⟨a1, a2, a3, a4⟩ := run_start (T := T) (W := W) (f := f) hR hu
  exact ⟨by rw [a1]; exact (M.mem _).mpr ⟨u, hu, rfl⟩, by rw [a2]; exact hW.rch hm ⟨u, hu, rfl⟩, a3, fun d hd => by rw [a4 d hd]; exact Nat.mod_lt _ (hR d hd)⟩
theorem cf_count {S : List Nat} {m : Nat} (h4 : S.length ≤ 4) (hm4 : m ≤ 4) (D2 : D ≤ 2) (hR : ∀ d, d < D → rd R d ≤ 12) {F : List Cf} (nd : F.Nodup) (ok : ∀ x, x ∈ F → CfOk D m S R x) : F.length ≤ 2304 := by
  have key : ∀ x, x ∈ F → S.idxOf x.1 < 4 ∧ x.2.1 < 4 ∧ x.2.2.getD 0 0 < 12 ∧ x.2.2.getD 1 0 < 12 := fun x hx => by
    have o := ok x hx
    have i1 := List.idxOf_lt_length_of_mem o.s
    have cc : ∀ d, x.2.2.getD d 0 < 12 := fun d => by
      by_cases h : d < D
      · have := o.c d h; have := hR d h; omega
      · rw [List.getD_eq_getElem?_getD, List.getElem?_eq_none (by rw [o.len]; omega)]
        show 0 < 12; decide
    exact ⟨by omega, by have := o.a; omega, cc 0, cc 1⟩
  have nd2 : (F.map fun x => ((S.idxOf x.1 * 4 + x.2.1) * 12 + x.2.2.getD 0 0) * 12 + x.2.2.getD 1 0).Nodup := nodup_map nd fun x hx y hy e => by
    obtain ⟨a1, a2, a3, a4⟩ := key x hx
    obtain ⟨b1, b2, b3, b4⟩ := key y hy
    have ox := ok x hx
    have oy := ok y hy
    have e1 : S.idxOf x.1 = S.idxOf y.1 := by omega
    have e2 : x.2.1 = y.2.1 := by omega
    have e3 : x.2.2.getD 0 0 = y.2.2.getD 0 0 := by omega
    have e4 : x.2.2.getD 1 0 = y.2.2.getD 1 0 := by omega
    refine Prod.ext ?_ (Prod.ext e2 (ext_getD (by rw [ox.len, oy.len]) fun i hi => ?_))
    · have g1 := List.getElem_idxOf (List.idxOf_lt_length_of_mem ox.s)
      have g2 := List.getElem_idxOf (List.idxOf_lt_length_of_mem oy.s)
      rw [← g1, ← g2]
      congr 1
    · rw [ox.len] at hi
      have : i = 0 ∨ i = 1 := by omega
      rcases this with rfl | rfl
      · exact e3
      · exact e4
  have := nodup_sub nd2 (m := List.range 2304) fun z hz => by
    obtain ⟨x, hx, rfl⟩ := List.mem_map.mp hz
    obtain ⟨a1, a2, a3, a4⟩ := key x hx
    exact List.mem_range.mpr (by omega)
  rw [List.length_map, List.length_range] at this
  exact this
end
/-! the walk over what has been found -/
structure GI {α : Type} (step : Nat → α → α) (D : Nat) (x0 : α) (F : List α) (t i : Nat) : Prop where
  nd : F.Nodup
  first : x0 ∈ F
  rch : ∀ x, x ∈ F → RchA step D x0 x
  cl : ∀ j x, j < t → F[j]? = some x → ∀ d, d < D → step d x ∈ F
  ci : ∀ x, F[t]? = some x → ∀ d, d < i → step d x ∈ F
section
variable {α : Type} {step : Nat → α → α} {D : Nat} {x0 x : α} {F : List α} {t i : Nat}
theorem GI.start : GI step D x0 [x0] 0 0 := ⟨by simp, by simp, fun x hx => by rw [List.mem_singleton.mp hx]; exact RchA.start, fun j x h => by omega, fun x _ d hd => by omega⟩
theorem GI.old (g : GI step D x0 F t i) (hx : F[t]? = some x) (h : step i x ∈ F) : GI step D x0 F t (i + 1) := ⟨g.nd, g.first, g.rch, g.cl, fun y hy d hd => by
  by_cases z : d = i
  · rw [hx] at hy; cases hy; rw [z]; exact h
  · exact g.ci y hy d (by omega)⟩
theorem GI.add (g : GI step D x0 F t i) (hi : i < D) (hx : F[t]? = some x) (h : step i x ∉ F) : GI step D x0 (F ++ [step i x]) t (i + 1) := by
  have ht : t < F.length := (List.getElem?_eq_some_iff.mp hx).1
  refine ⟨List.nodup_append.mpr ⟨g.nd, by simp, fun a ha b hb => by simp at hb; subst hb; exact fun z => h (z ▸ ha)⟩, List.mem_append_left _ g.first, fun y hy => ?_, fun j y hj hy d hd => ?_, fun y hy d hd => ?_⟩
  · obtain q | q := List.mem_append.mp hy
    · exact g.rch y q
    · rw [List.mem_singleton.mp q]; exact (g.rch x (List.mem_of_getElem? hx)).step hi
  · rw [List.getElem?_append_left (by omega)] at hy
    exact List.mem_append_left _ (g.cl j y hj hy d hd)
  · rw [List.getElem?_append_left ht] at hy
    rw [hx] at hy; cases hy
    by_cases z : d = i
    · rw [z]; simp
    · exact List.mem_append_left _ (g.ci x hx d (by omega))
theorem GI.next (g : GI step D x0 F t D) : GI step D x0 F (t + 1) 0 := ⟨g.nd, g.first, g.rch, fun j y hj hy d hd => by
  by_cases z : j = t
  · rw [z] at hy; exact g.ci y hy d hd
  · exact g.cl j y (by omega) hy d hd, fun _ _ d hd => by omega⟩
theorem GI.all (g : GI step D x0 F t 0) (h : F.length ≤ t) (x : α) : RchA step D x0 x → x ∈ F := fun ⟨u, hu, e⟩ => by
  have go : ∀ (u : List Nat) (y : α), Wd D u → y ∈ F → runA step u y ∈ F := by
    intro u
    induction u with
    | nil => intro y _ hy; exact hy
    | cons d u ih =>
      intro y hu hy
      obtain ⟨j, hj, e⟩ := List.getElem_of_mem hy
      exact ih _ hu.tail (g.cl j y (by omega) (by rw [List.getElem?_eq_getElem hj, e]) d hu.head)
  rw [← e]; exact go u x0 hu g.first
end
/-! keys -/
def kC (c : List Nat) : NestedKey := .tup (c.map fun n : Nat => NestedKey.num (n : Int))
def kS (p : Nat × List Nat) : NestedKey := .tup [.num (p.1 : Int), kC p.2]
def kT (x : Cf) : NestedKey := .tup [.num (x.1 : Int), .num (x.2.1 : Int), kC x.2.2]
theorem kC_inj {c c' : List Nat} (h : kC c = kC c') : c = c' := by
  unfold kC at h
  injection h with h
  have : ∀ {c c' : List Nat}, (c.map fun n : Nat => NestedKey.num (n : Int)) = (c'.map fun n : Nat => NestedKey.num (n : Int)) → c = c' := by
    intro c
    induction c with
    | nil => intro c' h; cases c' with | nil => rfl | cons _ _ => cases h
    | cons a c ih =>
      intro c' h
      cases c' with
      | nil => cases h
      | cons b c' =>
        rw [List.map_cons, List.map_cons (f := _)] at h
        injection h with h1 h2
        injection h1 with h1
        rw [ih h2, show a = b by omega]
  exact this h
theorem kS_inj {p q : Nat × List Nat} (h : kS p = kS q) : p = q := by
  unfold kS at h
  injection h with h
  injection h with h1 h
  injection h with h2 _
  injection h1 with h1
  exact Prod.ext (by omega) (kC_inj h2)
theorem kT_inj {x y : Cf} (h : kT x = kT y) : x = y := by
  unfold kT at h
  injection h with h
  injection h with h1 h
  injection h with h2 h
  injection h with h3 _
  injection h1 with h1
  injection h2 with h2
  exact Prod.ext (by omega) (Prod.ext (by omega) (kC_inj h3))
end OWP

/-! ## W33 -/
/-! W33: the law's own search for clashes: the walk. -/
namespace OWP
open PySem PySem.Spec PyProof.Rows L2 OWR OW
def CfV (H : Hp) (v : V) (x : Cf) : Prop := ∃ q r, v = .ref q ∧ H q = some (.tup [vN x.1, vN x.2.1, .ref r]) ∧ H r = some (.tup (x.2.2.map vN))
theorem CfV.keep {H H' : Hp} {v : V} {x : Cf} (h : CfV H v x) (k : TK H H') : CfV H' v x := let ⟨q, r, e, a, b⟩ := h; ⟨q, r, e, k _ _ a, k _ _ b⟩
theorem nks_nat (H : Hp) : ∀ c : List Nat, NKs H (c.map fun n : Nat => NestedKey.num (n : Int)) (c.map vN)
  | [] => .nil
  | a :: c => .cons (.int _) (nks_nat H c)
theorem nkC {H : Hp} {r : Addr} {c : List Nat} (h : H r = some (.tup (c.map vN))) : NKv H (kC c) (.ref r) := .tup h (nks_nat H c)
theorem CfV.key {H : Hp} {q : Addr} {x : Cf} (h : CfV H (.ref q) x) : NKv H (kT x) (.ref q) := by
  obtain ⟨_, r, e, a, b⟩ := h
  cases e
  exact .tup a (.cons (.int _) (.cons (.int _) (.cons (nkC b) .nil)))
theorem dpC (c : List Nat) : (kC c).depth ≤ 2 := by
  have : ∀ c : List Nat, NestedKey.depthAll (c.map fun n : Nat => NestedKey.num (n : Int)) ≤ 1 := by
    intro c
    induction c with
    | nil => simp [NestedKey.depthAll]
    | cons a c ih =>
      rw [List.map_cons, NestedKey.depthAll]
      have : (NestedKey.num (a : Int)).depth ≤ 1 := by simp [NestedKey.depth]
      omega
  unfold kC
  rw [NestedKey.depth]
  have := this c
  omega
theorem dpS (p : Nat × List Nat) : (kS p).depth ≤ 8 := by
  unfold kS
  have h1 : (NestedKey.num (p.1 : Int)).depth ≤ 1 := by simp [NestedKey.depth]
  have h2 := dpC p.2
  rw [NestedKey.depth, NestedKey.depthAll, NestedKey.depthAll, NestedKey.depthAll]
  omega
theorem dpT (x : Cf) : (kT x).depth ≤ 8 := by
  unfold kT
  have h1 : ∀ n : Nat, (NestedKey.num (n : Int)).depth ≤ 1 := fun n => by simp [NestedKey.depth]
  have h2 := dpC x.2.2
  have := h1 x.1
  have := h1 x.2.1
  rw [NestedKey.depth, NestedKey.depthAll, NestedKey.depthAll, NestedKey.depthAll, NestedKey.depthAll]
  omega
section
variable {P : Program} {w : World} {H H2 : Hp} {a : Addr} {kvs : List (NestedKey × V)}
theorem nd_at (d : ND P w H a kvs) : ∃ o, H a = some o ∧ (∀ ys, o ≠ .tup ys) ∧ (∀ xs, o ≠ .lst xs) := by
  obtain ⟨xs, e, _⟩ := d
  exact ⟨_, e, (fun _ z => nomatch z), (fun _ z => nomatch z)⟩
theorem _root_.OWR.ND.new (d : ND P w H a kvs) {b : Addr} {o : HO} (h : H b = none) : ND P w (upd H b o) a kvs := d.keep (fun _ e => at_new e h) (TK.new h)
theorem _root_.OWR.ND.mutL (d : ND P w H a kvs) {b : Addr} {xs : List V} {o : HO} (h : H b = some (.lst xs)) : ND P w (upd H b o) a kvs := by
  obtain ⟨u, e, _, hu⟩ := nd_at d
  exact d.keep (fun _ e2 => by rw [upd_ne (ne_of e h (hu xs))]; exact e2) (TK.lst h)
theorem _root_.OWR.ND.tk (d : ND P w H a kvs) {o : HO} : TK H (upd H a o) := by
  obtain ⟨u, e, hu, _⟩ := nd_at d
  exact TK.mut e hu
theorem _root_.OWR.ND.mutD (d : ND P w H a kvs) {b : Addr} {k2 : List (NestedKey × V)} {o : HO} (h : ND P w H b k2) (n : a ≠ b) : ND P w (upd H b o) a kvs := d.keep (fun _ e => by rw [upd_ne n]; exact e) h.tk
end
theorem ifFn {a b : Nat} {A B : Prop} (h : a = b) (x : B) : if (!decide (vN a = vN b)) = true then A else B := by subst h; rw [if_neg (by simp)]; exact x
theorem ifTn {a b : Nat} {A B : Prop} (h : a ≠ b) (x : A) : if (!decide (vN a = vN b)) = true then A else B := by
  have : ¬ vN a = vN b := fun z => h (vN_inj z)
  rw [if_pos (by simp [this])]; exact x
/-- what the search keeps -/
structure TSt (P : Program) (w : World) (H H2 : Hp) (hl tn td : Addr) (step : Nat → Cf → Cf) (D : Nat) (x0 : Cf) (F : List Cf) (t i : Nat) (kv1 kv2 : List (NestedKey × V)) : Prop where
  same : Same H H2
  hl0 : H hl = none
  tn0 : H tn = none
  td0 : H td = none
  hs : ∃ hs, H2 hl = some (.lst hs) ∧ Paired (CfV H2) hs F
  n1 : ND P w H2 tn kv1
  n2 : ND P w H2 td kv2
  d12 : tn ≠ td
  gi : GI step D x0 F t i
  k1 : ∀ x, valV kv1 (kT x) = none ↔ x ∉ F
  l1 : kv1.length ≤ F.length
/-- what has been told of the first t -/
structure Tol (F : List Cf) (t : Nat) (kv2 : List (NestedKey × V)) : Prop where
  a : ∀ j x, j < t → F[j]? = some x → valV kv2 (kS x.2) = some (vN x.1)
  b : ∀ p v, valV kv2 (kS p) = some v → ∃ x, x ∈ F ∧ x.2 = p ∧ v = vN x.1
  l : kv2.length ≤ t
  le : t ≤ F.length
theorem Tol.more {F : List Cf} {t : Nat} {kv2 : List (NestedKey × V)} (h : Tol F t kv2) (y : Cf) : Tol (F ++ [y]) t kv2 := ⟨fun j x hj hx => h.a j x hj (by rw [List.getElem?_append_left (by have := h.le; omega)] at hx; exact hx), fun p v e => let ⟨x, hx, r⟩ := h.b p v e; ⟨x, List.mem_append_left _ hx, r⟩, h.l, by rw [List.length_append]; have := h.le; omega⟩
section
variable {P : Program} {w : World} {H H2 : Hp} {hl tn td : Addr} {step : Nat → Cf → Cf} {D : Nat} {x0 : Cf} {F : List Cf} {t i t' i' : Nat} {kv1 kv2 : List (NestedKey × V)}
theorem TSt.new (s : TSt P w H H2 hl tn td step D x0 F t i kv1 kv2) {a : Addr} {o : HO} (ha : H2 a = none) : TSt P w H (upd H2 a o) hl tn td step D x0 F t i kv1 kv2 :=
  ⟨s.same.new ha, s.hl0, s.tn0, s.td0, let ⟨hs, e, p⟩ := s.hs; ⟨hs, at_new e ha, pmap p fun _ _ z => z.keep (TK.new ha)⟩, s.n1.new ha, s.n2.new ha, s.d12, s.gi, s.k1, s.l1⟩
theorem TSt.keep (s : TSt P w H H2 hl tn td step D x0 F t i kv1 kv2) {H3 : Hp} (k : Same H2 H3) : TSt P w H H3 hl tn td step D x0 F t i kv1 kv2 :=
  ⟨s.same.trans k, s.hl0, s.tn0, s.td0, let ⟨hs, e, p⟩ := s.hs; ⟨hs, k _ _ e, pmap p fun _ _ z => z.keep (.of k)⟩, s.n1.keep (fun _ e => k _ _ e) (TK.of k), s.n2.keep (fun _ e => k _ _ e) (TK.of k), s.d12, s.gi, s.k1, s.l1⟩
theorem TSt.re (s : TSt P w H H2 hl tn td step D x0 F t i kv1 kv2) (g : GI step D x0 F t' i') : TSt P w H H2 hl tn td step D x0 F t' i' kv1 kv2 := ⟨s.same, s.hl0, s.tn0, s.td0, s.hs, s.n1, s.n2, s.d12, g, s.k1, s.l1⟩
theorem TSt.told (s : TSt P w H H2 hl tn td step D x0 F t i kv1 kv2) {ob : HO} {kv3 : List (NestedKey × V)} (n : ND P w (upd H2 td ob) td kv3) : TSt P w H (upd H2 td ob) hl tn td step D x0 F t i kv1 kv3 := by
  obtain ⟨hs, e, p⟩ := s.hs
  obtain ⟨u, eu, _, hu⟩ := nd_at s.n2
  exact ⟨s.same.mut s.td0, s.hl0, s.tn0, s.td0, ⟨hs, by rw [upd_ne (ne_of e eu fun z => hu hs z.symm)]; exact e, pmap p fun _ _ z => z.keep s.n2.tk⟩, s.n1.mutD s.n2 s.d12, n, s.d12, s.gi, s.k1, s.l1⟩
/-- one more is found: told in the dict, then put behind -/
theorem TSt.add (s : TSt P w H H2 hl tn td step D x0 F t i kv1 kv2) {ob : HO} {y : Cf} {v : V} {hs : List V} (hhs : H2 hl = some (.lst hs)) (rv : CfV H2 v y) (hy : y ∉ F) (n : ND P w (upd H2 tn ob) tn (putK kv1 (kT y) (.bl true))) (g : GI step D x0 (F ++ [y]) t' i') :
    upd H2 tn ob hl = some (.lst hs) ∧ TSt P w H (upd (upd H2 tn ob) hl (.lst (hs ++ [v]))) hl tn td step D x0 (F ++ [y]) t' i' (putK kv1 (kT y) (.bl true)) kv2 := by
  obtain ⟨hs', e, p⟩ := s.hs
  rw [hhs] at e
  cases e
  obtain ⟨u, eu, _, hu⟩ := nd_at s.n1
  have nht : hl ≠ tn := ne_of hhs eu fun z => hu hs z.symm
  have h1 : upd H2 tn ob hl = some (.lst hs) := by rw [upd_ne nht]; exact hhs
  have kk := s.n1.tk.trans (TK.lst h1 (o := .lst (hs ++ [v])))
  have hn := (s.k1 y).mpr hy
  refine ⟨h1, (s.same.mut s.tn0).mut s.hl0, s.hl0, s.tn0, s.td0, ⟨_, upd_same, psnoc (pmap p fun _ _ z => z.keep kk) (rv.keep kk)⟩, n.mutL h1, (s.n2.mutD s.n1 s.d12.symm).mutL h1, s.d12, g, fun x => ?_, ?_⟩
  · rw [valV_put]
    by_cases z : kT x = kT y
    · rw [if_pos z, kT_inj z]
      exact ⟨(fun q => nomatch q), fun q => absurd (List.mem_append_right F (List.mem_singleton.mpr rfl)) q⟩
    · rw [if_neg z, s.k1 x]
      have : x ≠ y := fun q => z (by rw [q])
      simp [this]
  · rw [putK_new _ hn, List.length_append, List.length_append]
    have := s.l1
    simp; omega
end
section
variable {P : Program} {w : World} {base : Heap} {K : PySem.W.Frag} {mg : Str → Option Value}
def spTells : Sp := fun vs H Q _ => ∃ (tt ra wt : Addr) (us ws : List V) (T Ws : List (List Nat)) (R S : List Nat) (n f m : Nat), vs = [.ref tt, vN f, .ref ra, .ref wt, .int 0] ∧ H tt = some (.tup us) ∧ Paired (TI H) us T ∧ H wt = some (.tup ws) ∧ Paired (TI H) ws Ws ∧ H ra = some (.lst (R.map vN)) ∧ Tabs T n ∧ f < n ∧ Mach T f S ∧ R.length = T.length ∧ (∀ x, x ∈ R → 1 ≤ x ∧ x ≤ 12) ∧ Wit T.length m Ws ∧ T.length ≤ Ws.length ∧ 1 ≤ m ∧ m ≤ 4 ∧
  ∀ (b : Bool) H', Same H H' → (b = true ↔ Tells T f (rd R) Ws) → Q (.bl b) H'
theorem scTells : FnScope ["_law_tables_here", "_law_first", "_law_rounds", "_law_witness", "_law_start", "_law_here", "_law_there", "_law_told", "_law_turn", "_law_state", "_law_standing", "_law_showing", "_law_deed", "_law_number", "_law_after"] ["_law_tables_here", "_law_first", "_law_rounds", "_law_witness", "_law_start"] (defScope (topS 62)) := ⟨rfl, rfl, rfl, by decide +kernel, rfl, by decide +kernel, by decide +kernel⟩
theorem ok_tells {f : Addr} {fd : FuncData} (F : Fun K "_law_tells" "_law_tells" (topS 62) f fd) (Z : Gls mg) : FnOk P w K mg base CX0 1 f fd ["_law_tables_here", "_law_first", "_law_rounds", "_law_witness", "_law_start"] spTells := by
  refine F.ok scTells (fun vs H Q E h => ?_) (fun cdv A outer s0 H vs Q E hr h => ?_)
  · obtain ⟨tt, ra, wt, us, ws, T, Ws, R, S, n, f, m, rfl, _⟩ := h; rfl
  · obtain ⟨tt, ra, wt, us, ws, T, Ws, R, S, n, f, m, rfl, htt, hT, hwt, hWs, hra, tb, hf, M, hRl, hR12, wit, hDW, m1, m4, k⟩ := h
    refine ⟨_, pss_cons (ps_par3 (i := 5) (j := 6) (l := 7) rfl scTells.nd rfl rfl rfl (by decide) (by decide) (by decide) rfl rfl rfl (pa_cons (pe_lst (pa_cons (pe_tup (pa_cons (pv 1) (pa_cons (pv 4) (pa_cons (pe_op op_repA (pe_tup (pa_cons pe_int pa_nil)) (pe_callB call_len_seq (by rfl) Z.len (by decide +kernel) (pa_cons (pv 0) pa_nil))) pa_nil)))) pa_nil)) (pa_cons pe_dnewN (pa_cons pe_dnewN pa_nil))) (by rfl))
      (pss_cons (ps_asg pe_bl (pg_sub (pv 6) (pe_ix ix_list (pv 5) pe_int (fun _ _ => rfl)) (set_nd hr.units)))
      (pss_cons (ps_for PassesOwn.never rfl (pi_range1 (by rfl) Z.range (pa_cons pe_int pa_nil)) (pg_name (i := 8) scTells.nd rfl (Or.inl rfl))
        (pss_cons (ps_if (pt_cmpR op_eq (pv 8) (pe_callB call_len_seq (by rfl) Z.len (by decide +kernel) (pa_cons (pv 5) pa_nil)) (nomark _)) (pss_one (ps_ret pe_bl)) pss_nil)
        (pss_cons (ps_asg (pe_ix ix_list (pv 5) (pv 8) (fun _ _ => rfl)) (pg_tup rfl (pgs_cons (pg_name (i := 9) scTells.nd rfl (.inl rfl)) (pgs_cons (pg_name (i := 10) scTells.nd rfl (.inl rfl)) (pgs_cons (pg_name (i := 11) scTells.nd rfl (.inl rfl)) pgs_nil)))))
        (pss_cons (ps_if (pt_cmpR op_ne (pe_nsetd hr.units (pv 7) (pe_tup (pa_cons (pv 10) (pa_cons (pv 11) pa_nil))) (pv 9) ⟨rfl, rfl, rfl, rfl⟩) (pv 9) (nomark _)) (pss_one (ps_ret pe_bl)) pss_nil)
        (pss_one (ps_for PassesOwn.never rfl (pi_range1 (by rfl) Z.range (pa_cons (pe_callB call_len_seq (by rfl) Z.len (by decide +kernel) (pa_cons (pv 0) pa_nil)) pa_nil)) (pg_name (i := 12) scTells.nd rfl (Or.inl rfl))
          (pss_cons (ps_set (i := 13) scTells.nd rfl (Or.inl rfl) (pe_op op_mod (pe_callTy call_int1 (by rfl) Z.int (by decide +kernel) (pa_cons (pe_op op_add (pe_ix ix_tup (pv 11) (pv 12) (fun _ _ => rfl)) pe_int) pa_nil)) (pe_ix ix_list (pv 2) (pv 12) (fun _ _ => rfl))))
          (pss_cons (ps_set (i := 14) scTells.nd rfl (Or.inl rfl) (pe_tup (pa_cons (pe_ix ix_tup (pe_ix ix_tup (pv 0) (pv 12) (fun _ _ => rfl)) (pv 9) (fun _ _ => rfl)) (pa_cons (pe_ix ix_tup (pe_ix ix_tup (pv 3) (pv 12) (fun _ _ => rfl)) (pv 10) (fun _ _ => rfl))
            (pa_cons (pe_op op_catA (pe_op op_catA (pe_slice sl_tupA (pv 11) po_none (po_some (pv 12))) (pe_tup (pa_cons (pv 13) pa_nil))) (pe_slice sl_tupA (pv 11) (po_some (pe_op op_add (pv 12) pe_int)) po_none)) pa_nil)))))
          (pss_one (ps_if (pt_cmp (pc_nnotin hr.units (pv 14) (pv 6)))
            (pss_cons (ps_asg pe_bl (pg_sub (pv 6) (pv 14) (set_nd hr.units)))
            (pss_one (ps_expr (pe_bm PySem.F.plainAttrs_list PySem.F.slot_list_append PySem.F.type_list_append mt_append (pv 5) (pa_cons (pv 14) pa_nil))))) pss_nil))))))))))
      (pss_one (ps_ret pe_non)))), ?_⟩
    have hlen : us.length = T.length := plen hT
    have D4 := tb.len4
    have D2 := M.len2
    have D1 := tb.len1
    have hRd : ∀ d, d < T.length → 1 ≤ rd R d ∧ rd R d ≤ 12 := fun d hd => hR12 _ (getD_mem (by rw [hRl]; exact hd))
    refine ⟨_, rfl, _, rfl, (by show 1 ≤ sizeLine; decide), fun z hz => ?_⟩
    refine ⟨_, rfl, tt, us, rfl, .inr (.inl (.inl (at_new htt hz))), z, (us.length : Int), [V.int 0], rfl, rfl, upd_same, by simp, by omega, by omega, (by show 1 ≤ 1000; decide), fun r H1 s1 hr1 => ?_⟩
    have s01 : Same H H1 := (Same.upd hz).trans s1
    have er : (List.replicate ((us.length : Int)).toNat [V.int 0]).flatten = (List.replicate T.length 0).map vN := by
      rw [Int.toNat_natCast, hlen, List.map_replicate]
      have : ∀ n, (List.replicate n [V.int 0]).flatten = List.replicate n (vN 0) := fun n => by
        induction n with
        | zero => rfl
        | succ n ih => rw [List.replicate_succ, List.flatten_cons, ih]; rfl
      exact this _
    rw [er] at hr1
    refine ⟨(by show 3 ≤ sizeLine; decide), fun q hq => ⟨(by show 1 ≤ sizeLine; decide), fun hl hhl => fun tn o1 htn n1 => fun td o2 htd n2 => ⟨_, _, _, rfl, ?_⟩⟩⟩
    have s02 := s01.new (o := .tup [vN f, V.int 0, V.ref r]) hq
    have s03 := s02.new (o := .lst [V.ref q]) hhl
    have s04 := s03.new (o := o1) htn
    have hl0 := s02.free hhl
    have tn0 := s03.free htn
    have td0 := s04.free htd
    have nhq : hl ≠ q := fun z => by rw [z, upd_same] at hhl; cases hhl
    have hl4 := at_new (o := o2) (at_new (o := o1) (upd_same (H := upd H1 q (.tup [vN f, V.int 0, V.ref r])) (a := hl) (o := .lst [V.ref q])) htn) htd
    have cq1 : CfV (upd H1 q (.tup [vN f, V.int 0, V.ref r])) (.ref q) (x0C T.length f) := ⟨q, r, rfl, upd_same, at_new hr1 hq⟩
    have kq := ((TK.new (o := .lst [V.ref q]) hhl).trans (TK.new (o := o1) htn)).trans (TK.new (o := o2) htd)
    have cq4 := cq1.keep kq
    have n14 := n1.new (o := o2) htd
    have s05 := s04.new (o := o2) htd
    have dnt : tn ≠ td := let ⟨_, e, _⟩ := nd_at n1; ne_of_none e htd
    generalize upd (upd (upd (upd H1 q (.tup [vN f, V.int 0, V.ref r])) hl (.lst [V.ref q])) tn o1) td o2 = H5 at hl4 cq4 n14 n2 s05 ⊢
    refine ⟨_, rfl, _, rfl, hl, _, 0, _, rfl, rfl, .of hl4, rfl, tn, [], kT (x0C T.length f), q, rfl, n14, rfl, cq4.key, dpT _, rfl, (by show 0 < sizeLine; decide), fun ob n15 => ?_⟩
    obtain ⟨u5, e5, _, hu5⟩ := nd_at n14
    have nht : hl ≠ tn := ne_of hl4 e5 fun z => hu5 _ z.symm
    have st0 : TSt P w H (upd H5 tn ob) hl tn td (stepC T Ws R) T.length (x0C T.length f) [x0C T.length f] 0 0 (putK [] (kT (x0C T.length f)) (.bl true)) [] := ⟨s05.mut tn0, hl0, tn0, td0, ⟨_, by rw [upd_ne nht]; exact hl4, .cons (cq4.keep n14.tk) .nil⟩, n15, n2.mutD n14 dnt.symm, dnt, GI.start, fun x => by
      rw [valV_put]
      by_cases z : kT x = kT (x0C T.length f)
      · rw [if_pos z, kT_inj z]
        exact ⟨(fun q => nomatch q), fun q => absurd (List.mem_singleton.mpr rfl) q⟩
      · rw [if_neg z]
        exact ⟨fun _ q => z (by rw [List.mem_singleton.mp q]), fun _ => rfl⟩, Nat.le_refl _⟩
    have tol0 : Tol [x0C T.length f] 0 [] := ⟨fun j x h => by omega, (fun p v e => nomatch e), Nat.le_refl _, Nat.zero_le _⟩
    have okF : ∀ {F : List Cf}, (∀ x, x ∈ F → RchA (stepC T Ws R) T.length (x0C T.length f) x) → ∀ x, x ∈ F → CfOk T.length m S R x := fun h x hx => cf_ok M rfl wit m1 (fun d hd => (hRd d hd).1) (h x hx)
    have cnt : ∀ {F : List Cf}, F.Nodup → (∀ x, x ∈ F → RchA (stepC T Ws R) T.length (x0C T.length f) x) → F.length ≤ 2304 := fun nd h => cf_count M.small m4 D2 (fun d hd => (hRd d hd).2) nd (okF h)
    have small : ∀ {n : Nat}, n ≤ 2304 → n < sizeLine := fun h => Nat.lt_of_le_of_lt h (by decide)
    generalize upd H5 tn ob = H6 at st0 ⊢
    refine ⟨4000, rfl, by decide, by decide, ?_⟩
    refine for_it walk_range (fun t σ H7 => ∃ (F : List Cf) (kv1 kv2 : List (NestedKey × V)) (y0 y1 y2 y3 y4 y5 y6 : Option V), σ = [some (.ref tt), some (vN f), some (.ref ra), some (.ref wt), some (.int 0), some (.ref hl), some (.ref tn), some (.ref td), y0, y1, y2, y3, y4, y5, y6] ∧ TSt P w H H7 hl tn td (stepC T Ws R) T.length (x0C T.length f) F t 0 kv1 kv2 ∧ Tol F t kv2)
      ⟨_, _, _, _, _, _, _, _, _, _, rfl, st0, tol0⟩ (fun _ _ _ _ _ => True.intro) ?_ ?_
    · rintro t x σ H7 H7' ht ⟨F, kv1, kv2, y0, y1, y2, y3, y4, y5, y6, rfl, st, tol⟩ ⟨rfl, ex⟩
      obtain rfl := yN ex
      obtain ⟨hs, hhs, pF⟩ := st.hs
      have lhs : hs.length = F.length := plen pF
      have hle := tol.le
      refine ⟨_, rfl, _, rfl, hl, hs, rfl, .inl (.of hhs), rfl, _, rfl, ?_⟩
      by_cases hend : t = F.length
      · refine ifT (by rw [hend, lhs]) ?_
        refine k true H7' st.same ⟨fun _ => (tells_iff rfl fun d hd => (hRd d hd).1).mpr fun a b ha hb e => ?_, fun _ => rfl⟩
        have fa := st.gi.all (Nat.le_of_eq hend.symm) a ha
        have fb := st.gi.all (Nat.le_of_eq hend.symm) b hb
        obtain ⟨i, hi, ei⟩ := List.getElem_of_mem fa
        obtain ⟨j, hj, ej⟩ := List.getElem_of_mem fb
        have v1 := tol.a i a (by omega) (by rw [List.getElem?_eq_getElem hi, ei])
        have v2 := tol.a j b (by omega) (by rw [List.getElem?_eq_getElem hj, ej])
        rw [e, v2] at v1
        exact (vN_inj (Option.some.inj v1)).symm
      · refine ifF (fun z => hend (by injection z with z; omega)) ?_
        have htF : t < F.length := by omega
        obtain ⟨c, hc⟩ : ∃ c, F[t]? = some c := ⟨_, List.getElem?_eq_getElem htF⟩
        obtain ⟨u, hu, ⟨q2, r2, rfl, hq2, hr2⟩⟩ := pget' pF hc
        have hcF := List.mem_of_getElem? hc
        have ok := okF st.gi.rch c hcF
        refine ⟨_, rfl, _, rfl, hl, _, _, _, rfl, rfl, .of hhs, at_V hu, q2, _, rfl, .inl (.inl hq2), rfl, _, _, rfl, _, _, rfl, _, _, rfl, rfl, ?_⟩
        refine ⟨_, rfl, td, rfl, ⟨kv2, st.n2⟩, _, rfl, _, rfl, (by show 2 ≤ sizeLine; decide), fun kq hkq => ?_⟩
        have st2 := st.new (o := .tup [vN c.2.1, V.ref r2]) hkq
        have hr3 := at_new (o := .tup [vN c.2.1, V.ref r2]) hr2 hkq
        have hkq3 := upd_same (H := H7') (a := kq) (o := .tup [vN c.2.1, V.ref r2])
        generalize upd H7' kq (.tup [vN c.2.1, V.ref r2]) = H8 at st2 hr3 hkq3 ⊢
        have lF := cnt st.gi.nd st.gi.rch
        have lk2 := tol.l
        refine ⟨_, rfl, kv2, kS c.2, kq, st2.n2, rfl, .tup hkq3 (.cons (.int _) (.cons (nkC hr3) .nil)), dpS _, small (by omega), fun v hv => ?_, fun hn ob2 n2' => ?_⟩
        -- told already
        · obtain ⟨x, hx, e1, rfl⟩ := tol.b c.2 v hv
          refine ⟨_, rfl, rfl, ⟨_, rfl, ?_⟩⟩
          by_cases he : x.1 = c.1
          · refine ifFn he ?_
            have tol9 : Tol F (t + 1) kv2 := ⟨fun j y hj hy => by
              by_cases z : j = t
              · rw [z, hc] at hy; cases hy; rw [hv, he]
              · exact tol.a j y (by omega) hy, tol.b, by omega, htF⟩
            have st9 := st2
            have hr9 := hr3
            generalize kv2 = kv9 at st9 tol9
            refine ⟨_, rfl, tt, us, rfl, .inr (.inl (.inl (st9.same _ _ htt))), (us.length : Int), rfl, by omega, by omega, ?_⟩
            refine for_it walk_range (fun i σ HA => ∃ (F2 : List Cf) (kv1' : List (NestedKey × V)) (y4 y5 y6 : Option V), σ = [some (.ref tt), some (vN f), some (.ref ra), some (.ref wt), some (.int 0), some (.ref hl), some (.ref tn), some (.ref td), some (vN t), some (vN c.1), some (vN c.2.1), some (.ref r2), y4, y5, y6] ∧ F2[t]? = some c ∧ HA r2 = some (.tup (c.2.2.map vN)) ∧ TSt P w H HA hl tn td (stepC T Ws R) T.length (x0C T.length f) F2 t i kv1' kv9 ∧ Tol F2 (t + 1) kv9)
              ⟨F, kv1, _, _, _, rfl, hc, hr9, st9, tol9⟩ (fun _ _ _ _ _ => True.intro) ?_ ?_
            · rintro i xi σ HA HA' hi ⟨F2, kv1', y4, y5, y6, rfl, hc2, hrA, stA, tolA⟩ ⟨rfl, exi⟩
              obtain rfl := yN exi
              rw [Int.toNat_natCast, hlen] at hi
              obtain ⟨hd1, hd2⟩ := hRd i hi
              obtain ⟨l, hl1⟩ : ∃ l, T[i]? = some l := ⟨_, List.getElem?_eq_getElem hi⟩
              obtain ⟨u1, hu1, ⟨lb, rfl, hlb⟩⟩ := pget' hT hl1
              obtain ⟨l2, hl2⟩ : ∃ l, Ws[i]? = some l := ⟨_, List.getElem?_eq_getElem (by omega)⟩
              obtain ⟨u2, hu2, ⟨lc, rfl, hlc⟩⟩ := pget' hWs hl2
              have hln : l.length = n := (tb.row l (List.mem_of_getElem? hl1)).1
              have eW : Ws.getD i [] = l2 := by rw [List.getD_eq_getElem?_getD, hl2]; rfl
              have hlm : l2.length = m := by rw [← eW]; exact (wit i hi).1
              have c1n : c.1 < n := rch_lt tb hf ((M.mem c.1).mp ok.s)
              have a1 : atI (l.map vN) ((c.1 : Nat) : Int) = some (vN (actT T i c.1)) := by
                have : l.getD c.1 0 = actT T i c.1 := by unfold actT; rw [List.getD_eq_getElem?_getD (l := T), hl1]; rfl
                rw [← this]; exact at_vN (by omega)
              have a2 : atI (l2.map vN) ((c.2.1 : Nat) : Int) = some (vN (actT Ws i c.2.1)) := by
                have : l2.getD c.2.1 0 = actT Ws i c.2.1 := by unfold actT; rw [eW]
                rw [← this]; exact at_vN (by have := ok.a; omega)
              have sA := stA.same
              have clen := ok.len
              refine ⟨_, rfl, _, rfl, r2, _, _, _, rfl, rfl, .inl (.inl hrA), at_vN (by omega), _, _, rfl, rfl, .inl ⟨_, rfl, _, rfl, _, rfl, ra, _, _, _, rfl, rfl, .of (sA _ _ hra), at_vN (by omega), _, _, rfl, rfl, (by show (0:Int) < ((R.getD i 0 : Nat) : Int); have : R.getD i 0 = rd R i := rfl; omega), ?_⟩⟩
              have enum : V.int ((((c.2.2.getD i 0 : Nat) : Int) + 1) % ((R.getD i 0 : Nat) : Int)) = vN ((c.2.2.getD i 0 + 1) % rd R i) := by
                show V.int _ = V.int _
                rw [Int.natCast_emod, Int.natCast_add]; rfl
              refine ⟨_, rfl, _, rfl, tt, us, _, _, rfl, rfl, .inl (.inl (sA _ _ htt)), at_V hu1, _, rfl, lb, _, _, _, rfl, rfl, .inl (.inl (sA _ _ hlb)), a1, ?_⟩
              refine ⟨_, rfl, _, rfl, wt, ws, _, _, rfl, rfl, .inl (.inl (sA _ _ hwt)), at_V hu2, _, rfl, lc, _, _, _, rfl, rfl, .inl (.inl (sA _ _ hlc)), a2, ?_⟩
              refine ⟨_, rfl, _, rfl, _, rfl, ?_⟩
              refine sl_lo hrA fun p1 G1 g1 hp1 => ?_
              refine ⟨_, rfl, (by show 1 ≤ sizeLine; decide), fun p2 hp2 => ?_⟩
              have hp1' := at_new (o := .tup [V.int ((((c.2.2.getD i 0 : Nat) : Int) + 1) % ((R.getD i 0 : Nat) : Int))]) hp1 hp2
              have g2 := g1.new (o := .tup [V.int ((((c.2.2.getD i 0 : Nat) : Int) + 1) % ((R.getD i 0 : Nat) : Int))]) hp2
              refine cat_t hp1' upd_same ?_ fun p3 G3 g3 hp3 => ?_
              · rw [List.length_take, List.length_map]; show _ + 1 ≤ 1000; omega
              have g03 := g2.trans g3
              refine ⟨_, rfl, _, rfl, _, _, rfl, rfl, ⟨_, rfl, ?_⟩⟩
              have ej : ((i : Int) + 1) = ((i + 1 : Nat) : Int) := by omega
              rw [ej]
              unfold tNoPart; dsimp only
              refine sl_hi (g03 _ _ hrA) fun p4 G4 g4 hp4 => ?_
              refine cat_t (g4 _ _ hp3) hp4 ?_ fun p5 G5 g5 hp5 => ?_
              · rw [List.length_append, List.length_take, List.length_drop, List.length_map]; show _ + 1 + _ ≤ 1000; omega
              refine ⟨(by show 3 ≤ sizeLine; decide), fun qa hqa => ?_⟩
              have g05 := g03.trans (g4.trans g5)
              have hp5' : G5 p5 = some (.tup ((c.2.2.set i ((c.2.2.getD i 0 + 1) % rd R i)).map vN)) := by
                rw [hp5, set_cut _ _ _ (by omega), List.map_append, List.map_append, List.map_take, List.map_drop]; exact congrArg (fun v => some (HO.tup (List.take i (List.map vN c.2.2) ++ [v] ++ List.drop (i + 1) (List.map vN c.2.2)))) enum
              have stB := (stA.keep g05).new (o := .tup [vN (actT T i c.1), vN (actT Ws i c.2.1), V.ref p5]) hqa
              have hrB := at_new (o := .tup [vN (actT T i c.1), vN (actT Ws i c.2.1), V.ref p5]) (g05 _ _ hrA) hqa
              have cv : CfV (upd G5 qa (.tup [vN (actT T i c.1), vN (actT Ws i c.2.1), V.ref p5])) (.ref qa) (stepC T Ws R i c) := ⟨qa, p5, rfl, upd_same, at_new hp5' hqa⟩
              generalize upd G5 qa (.tup [vN (actT T i c.1), vN (actT Ws i c.2.1), V.ref p5]) = HB at stB hrB cv ⊢
              obtain ⟨hsB, hhB, pB⟩ := stB.hs
              have lB : hsB.length = F2.length := plen pB
              have lF2 := cnt stB.gi.nd stB.gi.rch
              have lk1 := stB.l1
              refine ⟨_, rfl, _, rfl, tn, kv1', kT (stepC T Ws R i c), qa, rfl, stB.n1, rfl, cv.key, dpT _, _, rfl, ?_⟩
              by_cases hin : stepC T Ws R i c ∈ F2
              · cases hv1 : valV kv1' (kT (stepC T Ws R i c)) with
                | none => exact absurd hin ((stB.k1 _).mp hv1)
                | some v1 =>
                  refine iteF ?_
                  exact ⟨F2, kv1', _, _, _, rfl, hc2, hrB, stB.re (stB.gi.old hc2 hin), tolA⟩
              · have hv1 := (stB.k1 _).mpr hin
                rw [hv1]
                refine iteT ?_
                refine ⟨_, rfl, _, rfl, tn, kv1', kT (stepC T Ws R i c), qa, rfl, stB.n1, rfl, cv.key, dpT _, hv1, small (by omega), fun ob n' => ?_⟩
                obtain ⟨h1, stN⟩ := stB.add hhB cv hin n' (stB.gi.add hi hc2 hin)
                refine ⟨_, rfl, .inl ⟨rfl, _, .of h1⟩, _, rfl, hl, hsB, _, rfl, rfl, h1, small (by omega), ?_⟩
                refine ⟨F2 ++ [stepC T Ws R i c], _, _, _, _, rfl, by rw [List.getElem?_append_left ((List.getElem?_eq_some_iff.mp hc2).1)]; exact hc2, ?_, stN, tolA.more _⟩
                have nrn : r2 ≠ tn := let ⟨u, e, hu, _⟩ := nd_at stB.n1; ne_of hrB e fun z => hu _ z.symm
                have nrh : r2 ≠ hl := ne_of hrB hhB fun z => nomatch z
                rw [upd_ne nrh, upd_ne nrn]; exact hrB
            · rintro σ HA ⟨F2, kv1', y4, y5, y6, rfl, hc2, hrA, stA, tolA⟩
              rw [Int.toNat_natCast, hlen] at stA
              exact ⟨F2, kv1', kv9, _, _, _, _, _, _, _, rfl, stA.re stA.gi.next, tolA⟩
          · refine ifTn he ?_
            refine k false H8 st2.same ⟨(fun z => nomatch z), fun ht => ?_⟩
            exact absurd ((tells_iff rfl fun d hd => (hRd d hd).1).mp ht x c (st.gi.rch x hx) (st.gi.rch c hcF) e1) he
        -- told now
        · refine ⟨_, rfl, rfl, ⟨_, rfl, ?_⟩⟩
          refine ifFn rfl ?_
          have st9 := st2.told n2'
          have nrd : r2 ≠ td := let ⟨u, e, hu, _⟩ := nd_at st2.n2; ne_of hr3 e fun z => hu _ z.symm
          have hr9 : upd H8 td ob2 r2 = some (.tup (c.2.2.map vN)) := by rw [upd_ne nrd]; exact hr3
          have tol9 : Tol F (t + 1) (putK kv2 (kS c.2) (vN c.1)) := ⟨fun j y hj hy => by
            rw [valV_put]
            by_cases z : j = t
            · rw [z, hc] at hy; cases hy; rw [if_pos rfl]
            · have v1 := tol.a j y (by omega) hy
              by_cases z2 : kS y.2 = kS c.2
              · rw [z2, hn] at v1; cases v1
              · rw [if_neg z2]; exact v1, fun p v e => by
            rw [valV_put] at e
            by_cases z : kS p = kS c.2
            · rw [if_pos z] at e
              cases e
              exact ⟨c, hcF, (kS_inj z).symm, rfl⟩
            · rw [if_neg z] at e; exact tol.b p v e, by have := length_putK kv2 (kS c.2) (vN c.1); omega, htF⟩
          generalize putK kv2 (kS c.2) (vN c.1) = kv9 at st9 tol9
          generalize upd H8 td ob2 = H9 at st9 hr9 ⊢
          refine ⟨_, rfl, tt, us, rfl, .inr (.inl (.inl (st9.same _ _ htt))), (us.length : Int), rfl, by omega, by omega, ?_⟩
          refine for_it walk_range (fun i σ HA => ∃ (F2 : List Cf) (kv1' : List (NestedKey × V)) (y4 y5 y6 : Option V), σ = [some (.ref tt), some (vN f), some (.ref ra), some (.ref wt), some (.int 0), some (.ref hl), some (.ref tn), some (.ref td), some (vN t), some (vN c.1), some (vN c.2.1), some (.ref r2), y4, y5, y6] ∧ F2[t]? = some c ∧ HA r2 = some (.tup (c.2.2.map vN)) ∧ TSt P w H HA hl tn td (stepC T Ws R) T.length (x0C T.length f) F2 t i kv1' kv9 ∧ Tol F2 (t + 1) kv9)
            ⟨F, kv1, _, _, _, rfl, hc, hr9, st9, tol9⟩ (fun _ _ _ _ _ => True.intro) ?_ ?_
          · rintro i xi σ HA HA' hi ⟨F2, kv1', y4, y5, y6, rfl, hc2, hrA, stA, tolA⟩ ⟨rfl, exi⟩
            obtain rfl := yN exi
            rw [Int.toNat_natCast, hlen] at hi
            obtain ⟨hd1, hd2⟩ := hRd i hi
            obtain ⟨l, hl1⟩ : ∃ l, T[i]? = some l := ⟨_, List.getElem?_eq_getElem hi⟩
            obtain ⟨u1, hu1, ⟨lb, rfl, hlb⟩⟩ := pget' hT hl1
            obtain ⟨l2, hl2⟩ : ∃ l, Ws[i]? = some l := ⟨_, List.getElem?_eq_getElem (by omega)⟩
            obtain ⟨u2, hu2, ⟨lc, rfl, hlc⟩⟩ := pget' hWs hl2
            have hln : l.length = n := (tb.row l (List.mem_of_getElem? hl1)).1
            have eW : Ws.getD i [] = l2 := by rw [List.getD_eq_getElem?_getD, hl2]; rfl
            have hlm : l2.length = m := by rw [← eW]; exact (wit i hi).1
            have c1n : c.1 < n := rch_lt tb hf ((M.mem c.1).mp ok.s)
            have a1 : atI (l.map vN) ((c.1 : Nat) : Int) = some (vN (actT T i c.1)) := by
              have : l.getD c.1 0 = actT T i c.1 := by unfold actT; rw [List.getD_eq_getElem?_getD (l := T), hl1]; rfl
              rw [← this]; exact at_vN (by omega)
            have a2 : atI (l2.map vN) ((c.2.1 : Nat) : Int) = some (vN (actT Ws i c.2.1)) := by
              have : l2.getD c.2.1 0 = actT Ws i c.2.1 := by unfold actT; rw [eW]
              rw [← this]; exact at_vN (by have := ok.a; omega)
            have sA := stA.same
            have clen := ok.len
            refine ⟨_, rfl, _, rfl, r2, _, _, _, rfl, rfl, .inl (.inl hrA), at_vN (by omega), _, _, rfl, rfl, .inl ⟨_, rfl, _, rfl, _, rfl, ra, _, _, _, rfl, rfl, .of (sA _ _ hra), at_vN (by omega), _, _, rfl, rfl, (by show (0:Int) < ((R.getD i 0 : Nat) : Int); have : R.getD i 0 = rd R i := rfl; omega), ?_⟩⟩
            have enum : V.int ((((c.2.2.getD i 0 : Nat) : Int) + 1) % ((R.getD i 0 : Nat) : Int)) = vN ((c.2.2.getD i 0 + 1) % rd R i) := by
              show V.int _ = V.int _
              rw [Int.natCast_emod, Int.natCast_add]; rfl
            refine ⟨_, rfl, _, rfl, tt, us, _, _, rfl, rfl, .inl (.inl (sA _ _ htt)), at_V hu1, _, rfl, lb, _, _, _, rfl, rfl, .inl (.inl (sA _ _ hlb)), a1, ?_⟩
            refine ⟨_, rfl, _, rfl, wt, ws, _, _, rfl, rfl, .inl (.inl (sA _ _ hwt)), at_V hu2, _, rfl, lc, _, _, _, rfl, rfl, .inl (.inl (sA _ _ hlc)), a2, ?_⟩
            refine ⟨_, rfl, _, rfl, _, rfl, ?_⟩
            refine sl_lo hrA fun p1 G1 g1 hp1 => ?_
            refine ⟨_, rfl, (by show 1 ≤ sizeLine; decide), fun p2 hp2 => ?_⟩
            have hp1' := at_new (o := .tup [V.int ((((c.2.2.getD i 0 : Nat) : Int) + 1) % ((R.getD i 0 : Nat) : Int))]) hp1 hp2
            have g2 := g1.new (o := .tup [V.int ((((c.2.2.getD i 0 : Nat) : Int) + 1) % ((R.getD i 0 : Nat) : Int))]) hp2
            refine cat_t hp1' upd_same ?_ fun p3 G3 g3 hp3 => ?_
            · rw [List.length_take, List.length_map]; show _ + 1 ≤ 1000; omega
            have g03 := g2.trans g3
            refine ⟨_, rfl, _, rfl, _, _, rfl, rfl, ⟨_, rfl, ?_⟩⟩
            have ej : ((i : Int) + 1) = ((i + 1 : Nat) : Int) := by omega
            rw [ej]
            unfold tNoPart; dsimp only
            refine sl_hi (g03 _ _ hrA) fun p4 G4 g4 hp4 => ?_
            refine cat_t (g4 _ _ hp3) hp4 ?_ fun p5 G5 g5 hp5 => ?_
            · rw [List.length_append, List.length_take, List.length_drop, List.length_map]; show _ + 1 + _ ≤ 1000; omega
            refine ⟨(by show 3 ≤ sizeLine; decide), fun qa hqa => ?_⟩
            have g05 := g03.trans (g4.trans g5)
            have hp5' : G5 p5 = some (.tup ((c.2.2.set i ((c.2.2.getD i 0 + 1) % rd R i)).map vN)) := by
              rw [hp5, set_cut _ _ _ (by omega), List.map_append, List.map_append, List.map_take, List.map_drop]; exact congrArg (fun v => some (HO.tup (List.take i (List.map vN c.2.2) ++ [v] ++ List.drop (i + 1) (List.map vN c.2.2)))) enum
            have stB := (stA.keep g05).new (o := .tup [vN (actT T i c.1), vN (actT Ws i c.2.1), V.ref p5]) hqa
            have hrB := at_new (o := .tup [vN (actT T i c.1), vN (actT Ws i c.2.1), V.ref p5]) (g05 _ _ hrA) hqa
            have cv : CfV (upd G5 qa (.tup [vN (actT T i c.1), vN (actT Ws i c.2.1), V.ref p5])) (.ref qa) (stepC T Ws R i c) := ⟨qa, p5, rfl, upd_same, at_new hp5' hqa⟩
            generalize upd G5 qa (.tup [vN (actT T i c.1), vN (actT Ws i c.2.1), V.ref p5]) = HB at stB hrB cv ⊢
            obtain ⟨hsB, hhB, pB⟩ := stB.hs
            have lB : hsB.length = F2.length := plen pB
            have lF2 := cnt stB.gi.nd stB.gi.rch
            have lk1 := stB.l1
            refine ⟨_, rfl, _, rfl, tn, kv1', kT (stepC T Ws R i c), qa, rfl, stB.n1, rfl, cv.key, dpT _, _, rfl, ?_⟩
            by_cases hin : stepC T Ws R i c ∈ F2
            · cases hv1 : valV kv1' (kT (stepC T Ws R i c)) with
              | none => exact absurd hin ((stB.k1 _).mp hv1)
              | some v1 =>
                refine iteF ?_
                exact ⟨F2, kv1', _, _, _, rfl, hc2, hrB, stB.re (stB.gi.old hc2 hin), tolA⟩
            · have hv1 := (stB.k1 _).mpr hin
              rw [hv1]
              refine iteT ?_
              refine ⟨_, rfl, _, rfl, tn, kv1', kT (stepC T Ws R i c), qa, rfl, stB.n1, rfl, cv.key, dpT _, hv1, small (by omega), fun ob n' => ?_⟩
              obtain ⟨h1, stN⟩ := stB.add hhB cv hin n' (stB.gi.add hi hc2 hin)
              refine ⟨_, rfl, .inl ⟨rfl, _, .of h1⟩, _, rfl, hl, hsB, _, rfl, rfl, h1, small (by omega), ?_⟩
              refine ⟨F2 ++ [stepC T Ws R i c], _, _, _, _, rfl, by rw [List.getElem?_append_left ((List.getElem?_eq_some_iff.mp hc2).1)]; exact hc2, ?_, stN, tolA.more _⟩
              have nrn : r2 ≠ tn := let ⟨u, e, hu, _⟩ := nd_at stB.n1; ne_of hrB e fun z => hu _ z.symm
              have nrh : r2 ≠ hl := ne_of hrB hhB fun z => nomatch z
              rw [upd_ne nrh, upd_ne nrn]; exact hrB
          · rintro σ HA ⟨F2, kv1', y4, y5, y6, rfl, hc2, hrA, stA, tolA⟩
            rw [Int.toNat_natCast, hlen] at stA
            exact ⟨F2, kv1', kv9, _, _, _, _, _, _, _, rfl, stA.re stA.gi.next, tolA⟩
    · rintro σ H7 ⟨F, kv1, kv2, y0, y1, y2, y3, y4, y5, y6, rfl, st, tol⟩
      have := tol.le
      have := cnt st.gi.nd st.gi.rch
      have : ¬ ((4000 : Int).toNat ≤ F.length) := by show ¬ 4000 ≤ F.length; omega
      exact absurd tol.le this
end
end OWP

/-! ## W34 -/
/-! W34: the law's rows. -/
namespace OWP
open PySem PySem.Spec PyProof.Rows L2 OWR OW
def grow (k : Nat) (row : List Nat) : List (List Nat) := ((List.range k).filter fun n => !decide (n ∈ row)).map fun n => row ++ [n]
def rowsT (k : Nat) : Nat → List (List Nat)
  | 0 => [[]]
  | t + 1 => (rowsT k t).flatMap (grow k)
theorem mem_rowsT {k : Nat} : ∀ {t : Nat} {l : List Nat}, l ∈ rowsT k t ↔ l.length = t ∧ l.Nodup ∧ ∀ x, x ∈ l → x < k
  | 0, l => by
    show l ∈ [[]] ↔ _
    rw [List.mem_singleton]
    constructor
    · rintro rfl; exact ⟨rfl, List.nodup_nil, fun _ h => nomatch h⟩
    · intro h; exact List.eq_nil_of_length_eq_zero h.1
  | t + 1, l => by
    show l ∈ (rowsT k t).flatMap (grow k) ↔ _
    rw [List.mem_flatMap]
    constructor
    · rintro ⟨row, hr, hl⟩
      obtain ⟨h1, h2, h3⟩ := mem_rowsT.mp hr
      obtain ⟨n, hn, rfl⟩ := List.mem_map.mp hl
      obtain ⟨n1, n2⟩ := List.mem_filter.mp hn
      have hnr : n ∉ row := by simpa using n2
      refine ⟨by rw [List.length_append, h1]; rfl, List.nodup_append.mpr ⟨h2, by simp, fun a ha b hb => by simp at hb; subst hb; exact fun z => hnr (z ▸ ha)⟩, fun x hx => ?_⟩
      obtain q | q := List.mem_append.mp hx
      · exact h3 x q
      · rw [List.mem_singleton.mp q]; exact List.mem_range.mp n1
    · rintro ⟨h1, h2, h3⟩
      obtain ⟨y, _, e⟩ := last_of (xs := l) (by omega)
      generalize l.dropLast = r at e
      subst e
      obtain ⟨n1, n2, n3⟩ := List.nodup_append.mp h2
      rw [List.length_append] at h1
      refine ⟨r, mem_rowsT.mpr ⟨by simpa using h1, n1, fun x hx => h3 x (List.mem_append_left _ hx)⟩, List.mem_map.mpr ⟨y, List.mem_filter.mpr ⟨List.mem_range.mpr (h3 y (by simp)), ?_⟩, rfl⟩⟩
      have : y ∉ r := fun z => n3 y z y (by simp) rfl
      simp [this]
theorem len_grow (k : Nat) (row : List Nat) : (grow k row).length ≤ k := by
  unfold grow
  rw [List.length_map]
  have := List.length_filter_le (fun n => !decide (n ∈ row)) (List.range k)
  rwa [List.length_range] at this
theorem len_flat {k : Nat} : ∀ l : List (List Nat), (l.flatMap (grow k)).length ≤ l.length * k
  | [] => by simp
  | a :: l => by
    rw [List.flatMap_cons, List.length_append, List.length_cons, Nat.add_mul]
    have := len_grow k a
    have := len_flat (k := k) l
    omega
theorem len_rowsT {k : Nat} (h : k ≤ 3) : ∀ t, t ≤ 3 → (rowsT k t).length ≤ 27 := by
  have h0 : (rowsT k 0).length = 1 := rfl
  have h1 : (rowsT k 1).length ≤ 3 := by have := len_flat (k := k) (rowsT k 0); rw [h0] at this; show ((rowsT k 0).flatMap (grow k)).length ≤ 3; omega
  have h2 : (rowsT k 2).length ≤ 9 := by
    have := len_flat (k := k) (rowsT k 1)
    have : (rowsT k 1).length * k ≤ 3 * 3 := Nat.mul_le_mul h1 h
    show ((rowsT k 1).flatMap (grow k)).length ≤ 9; omega
  have h3 : (rowsT k 3).length ≤ 27 := by
    have := len_flat (k := k) (rowsT k 2)
    have : (rowsT k 2).length * k ≤ 9 * 3 := Nat.mul_le_mul h2 h
    show ((rowsT k 2).flatMap (grow k)).length ≤ 27; omega
  intro t ht
  have : t = 0 ∨ t = 1 ∨ t = 2 ∨ t = 3 := by omega
  rcases this with rfl | rfl | rfl | rfl <;> omega
section
variable {P : Program} {w : World} {base : Heap} {K : PySem.W.Frag} {mg : Str → Option Value}
def spRowsL : Sp := fun vs H Q _ => ∃ (k : Nat), vs = [vN k] ∧ k ≤ 3 ∧ ∀ q H' us, Same H H' → H' q = some (.lst us) → Paired (TI H') us (rowsT k k) → Q (.ref q) H'
theorem scRowsL : FnScope ["_law_size", "_law_found", "_law_turn", "_law_longer", "_law_row", "_law_number"] ["_law_size"] (defScope (topS 63)) := ⟨rfl, rfl, rfl, by decide +kernel, rfl, by decide +kernel, by decide +kernel⟩
theorem ok_rowsl {f : Addr} {fd : FuncData} (F : Fun K "_law_rows" "_law_rows" (topS 63) f fd) (Z : Gls mg) : FnOk P w K mg base CX0 1 f fd ["_law_size"] spRowsL := by
  refine F.ok scRowsL (fun vs H Q E h => ?_) (fun cdv A outer s0 H vs Q E hr h => ?_)
  · obtain ⟨k, rfl, _⟩ := h; rfl
  · obtain ⟨k, rfl, k3, kk⟩ := h
    refine ⟨_, pss_cons (ps_set (i := 1) scRowsL.nd rfl (Or.inl rfl) (pe_lst (pa_cons (pe_tup pa_nil) pa_nil)))
      (pss_cons (ps_for PassesOwn.never rfl (pi_range1 (by rfl) Z.range (pa_cons (pv 0) pa_nil)) (pg_name (i := 2) scRowsL.nd rfl (Or.inl rfl))
        (pss_cons (ps_set (i := 3) scRowsL.nd rfl (Or.inl rfl) (pe_lst pa_nil))
        (pss_cons (ps_for PassesOwn.never rfl (pi_list (pv 1)) (pg_name (i := 4) scRowsL.nd rfl (Or.inr rfl))
          (pss_one (ps_set (i := 3) scRowsL.nd rfl (Or.inl rfl) (pe_op op_cat (pv 3)
            (pe_lc (own := [("_law_number", 5)]) (g := gName 5) (tt := tTest (tOp (rIn K true) (tVar 5) (tVar 4))) (te := tOp (rCatA K) (tVar 4) (tTup (tCons (tVar 5) tNil))) rfl scRowsL.nd (pi_range1 (by rfl) Z.range (pa_cons (pv 0) pa_nil)) (blkOk_by (N := ["_law_size", "_law_found", "_law_turn", "_law_longer", "_law_row", "_law_number"]) (sc := defScope (topS 63)) (by decide +kernel))
              (fun _ _ _ _ _ => pg_name (i := 5) scRowsL.nd rfl (.inl rfl)) (fun _ _ _ _ _ => pts_one (pt_cmpR (op_notInK rfl) (pv 5) (pv 4) (by rfl)))
              (fun _ _ _ _ _ => pe_op (op_catAK rfl) (pv 4) (pe_tup (pa_cons (pv 5) pa_nil))))))))
        (pss_one (ps_set (i := 1) scRowsL.nd rfl (Or.inl rfl) (pv 3)))))) (pss_one (ps_ret (pv 1)))), ?_⟩
    refine ⟨(by show 0 ≤ sizeLine; decide), fun e0 he0 => ⟨(by show 1 ≤ sizeLine; decide), fun f0 hf0 => ?_⟩⟩
    have s0 := (Same.upd (o := .tup []) he0).new (o := .lst [V.ref e0]) hf0
    have p0 : Paired (TI (upd (upd H e0 (.tup [])) f0 (.lst [V.ref e0]))) [V.ref e0] (rowsT k 0) := .cons ⟨e0, rfl, at_new upd_same hf0⟩ .nil
    have h0 := upd_same (H := upd H e0 (.tup [])) (a := f0) (o := .lst [V.ref e0])
    generalize upd (upd H e0 (.tup [])) f0 (.lst [V.ref e0]) = H1 at s0 p0 h0 ⊢
    refine ⟨_, rfl, (k : Int), rfl, by omega, by omega, ?_⟩
    refine for_it walk_range (fun t σ H2 => ∃ (fl : Addr) (us : List V) (x2 x3 x4 : Option V), σ = [some (vN k), some (.ref fl), x2, x3, x4, none] ∧ Same H H2 ∧ H2 fl = some (.lst us) ∧ Paired (TI H2) us (rowsT k t))
      ⟨f0, _, _, _, _, rfl, s0, h0, p0⟩ (fun _ _ _ _ _ => True.intro) ?_ ?_
    · rintro t x σ H2 H2' ht ⟨fl, us, x2, x3, x4, rfl, s2, h2, p2⟩ ⟨rfl, ex⟩
      obtain rfl := yN ex
      rw [Int.toNat_natCast] at ht
      have lus : us.length ≤ 27 := by rw [plen p2]; exact len_rowsT k3 t (by omega)
      refine ⟨(by show 0 ≤ sizeLine; decide), fun l0 hl0 => ?_⟩
      have s3 := Same.upd (H := H2') (o := .lst []) hl0
      have hl3 := upd_same (H := H2') (a := l0) (o := .lst [])
      have h3 := s3 _ _ h2
      have p3 := pmap p2 fun _ _ z => TI.keep z (.of s3)
      generalize upd H2' l0 (.lst []) = H3 at s3 hl3 h3 p3 ⊢
      refine ⟨_, rfl, fl, rfl, ⟨_, .of h3⟩, ?_⟩
      refine for_list (K := K) (a := fl) (xs := us) (fun j σ H4 => ∃ (ll : Addr) (vs : List V) (x4 : Option V), σ = [some (vN k), some (.ref fl), some (vN t), some (.ref ll), x4, none] ∧ Same H3 H4 ∧ H4 ll = some (.lst vs) ∧ Paired (TI H4) vs (((rowsT k t).take j).flatMap (grow k)))
        ⟨l0, [], _, rfl, Same.refl _, hl3, .nil⟩ (fun j σ H4 _ ⟨_, _, _, _, z, _⟩ => .of (z _ _ h3)) ?_ ?_
      · rintro j y σ H4 hy ⟨ll, vs, y4, rfl, s4, h4, p4⟩
        obtain ⟨row, hrow, ⟨ra, rfl, hra⟩⟩ := pget p3 hy
        have hra4 := s4 _ _ hra
        obtain ⟨r1, r2, r3⟩ := mem_rowsT.mp (List.mem_of_getElem? hrow)
        have lvs : vs.length ≤ 81 := by
          rw [plen p4]
          have := len_flat (k := k) ((rowsT k t).take j)
          have h5 := List.length_take_le' j (rowsT k t)
          have h6 : (rowsT k t).length ≤ 27 := len_rowsT k3 t (by omega)
          have : ((rowsT k t).take j).length * k ≤ 27 * 3 := Nat.mul_le_mul (by omega) k3
          omega
        refine ⟨_, rfl, _, rfl, (k : Int), rfl, by omega, by omega, fun D hD => ?_⟩
        refine lc_it walk_range (fun i H5 => Same H4 H5 ∧ ∃ ws, H5 D = some (.lst ws) ∧ Paired (TI H5) ws (((List.range i).filter fun n => !decide (n ∈ row)).map fun n => row ++ [n])) ⟨Same.upd hD, [], upd_same, .nil⟩ (fun _ _ _ _ => True.intro) ?_ ?_
        · rintro i x5 Hx H5 hi ⟨s5, ws, h5, p5⟩ ⟨rfl, ex5⟩
          obtain rfl := yN ex5
          rw [Int.toNat_natCast] at hi
          have lws : ws.length ≤ i := by
            rw [plen p5, List.length_map]
            have := List.length_filter_le (fun n => !decide (n ∈ row)) (List.range i)
            rwa [List.length_range] at this
          have hra5 := s5 _ _ hra4
          refine ⟨rfl, _, rfl, _, rfl, ra, _, rfl, .inr (.inl (.inl hra5)), rfl, flat_vN _, _, rfl, ?_⟩
          rw [inV_vN]
          by_cases hin : i ∈ row
          · rw [decide_eq_true hin]
            refine iteF ⟨s5, ws, h5, ?_⟩
            rw [List.range_succ, List.filter_append, List.filter_cons, if_neg (by simp [hin]), List.filter_nil, List.append_nil]
            exact p5
          · rw [decide_eq_false hin]
            refine iteT ⟨_, rfl, _, rfl, (by show 1 ≤ sizeLine; decide), fun z0 hz0 => ?_⟩
            refine cat_t (at_new hra5 hz0) upd_same (by rw [List.length_map, r1]; show _ + 1 ≤ 1000; omega) fun p H6 s6 hp => ?_
            have s56 := (Same.upd (H := H5) (o := .tup [vN i]) hz0).trans s6
            have h6 := s56 _ _ h5
            have kk6 := (TK.of s56).trans (TK.lst h6 (o := .lst (ws ++ [V.ref p])))
            refine ⟨ws, h6, small1000 (by omega), (s5.trans s56).mut hD, ws ++ [V.ref p], upd_same, ?_⟩
            rw [List.range_succ, List.filter_append, List.filter_cons, if_pos (by simp [hin]), List.filter_nil, List.map_append]
            refine psnoc (pmap p5 fun _ _ z => TI.keep z kk6) ⟨p, rfl, TK.lst h6 _ _ ?_⟩
            rw [hp, List.map_append]; rfl
        · rintro H5 ⟨s5, ws, h5, p5⟩
          rw [Int.toNat_natCast] at p5
          have lws : ws.length ≤ 3 := by
            rw [plen p5]
            have := len_grow k row
            unfold grow at this
            omega
          have h45 := s5 _ _ h4
          refine ⟨ll, D, vs, ws, rfl, rfl, h45, h5, Nat.le_of_lt (small1000 (by omega)), fun q hq => ?_⟩
          have kq := TK.new (o := .lst (vs ++ ws)) hq
          refine ⟨q, vs ++ ws, _, rfl, (s4.trans s5).new hq, upd_same, ?_⟩
          rw [List.take_add_one, hrow, List.flatMap_append]
          refine papp (pmap p4 fun _ _ z => TI.keep z ((TK.of s5).trans kq)) ?_
          simp only [Option.toList_some, List.flatMap_cons, List.flatMap_nil, List.append_nil]
          exact pmap p5 fun _ _ z => TI.keep z kq
      · rintro σ H4 ⟨ll, vs, y4, rfl, s4, h4, p4⟩
        rw [plen p3, List.take_length] at p4
        exact ⟨_, rfl, ll, vs, _, _, _, rfl, s2.trans (s3.trans s4), h4, p4⟩
    · rintro σ H2 ⟨fl, us, x2, x3, x4, rfl, s2, h2, p2⟩
      rw [Int.toNat_natCast] at p2
      exact ⟨_, rfl, kk fl H2 us s2 h2 p2⟩
end
end OWP

/-! ## W35 -/
/-! W35: the fewest, as the law searches for it. -/
namespace OWP
open PySem PySem.Spec PyProof.Rows L2 OWR OW
theorem run_same {W W' : List (List Nat)} {D : Nat} (h : ∀ d, d < D → W.getD d [] = W'.getD d []) : ∀ (w : List Nat) (a : Nat), Wd D w → runA (actT W) w a = runA (actT W') w a
  | [], _, _ => rfl
  | d :: w, a, hw => by
    rw [runA_cons, runA_cons]
    have : actT W d a = actT W' d a := by unfold actT; rw [h d hw.head]
    rw [this]; exact run_same h w _ hw.tail
theorem tells_same {T : List (List Nat)} {f : Nat} {R : Nat → Nat} {W W' : List (List Nat)} (h : ∀ d, d < T.length → W.getD d [] = W'.getD d []) (t : Tells T f R W) : Tells T f R W' := fun w w' hw hw' c e => by
  rw [← run_same h w 0 hw, ← run_same h w' 0 hw'] at e
  exact t w w' hw hw' c e
theorem two_D {D d : Nat} (h : D ≤ 2) (hd : d < D) : d = 0 ∨ (d = 1 ∧ D = 2) := by omega
/-- the rows of a witness of two deeds or one -/
theorem wit_rows {D m : Nat} {W : List (List Nat)} (hW : Wit D m W) {d : Nat} (hd : d < D) : W.getD d [] ∈ rowsT m m := mem_rowsT.mpr (hW d hd)
section
variable {P : Program} {w : World} {base : Heap} {K : PySem.W.Frag} {mg : Str → Option Value}
def spFewL : Sp := fun vs H Q _ => ∃ (tt ra : Addr) (us : List V) (T : List (List Nat)) (R S : List Nat) (n f : Nat), vs = [.ref tt, vN f, .ref ra] ∧ H tt = some (.tup us) ∧ Paired (TI H) us T ∧ H ra = some (.lst (R.map vN)) ∧ Tabs T n ∧ f < n ∧ Mach T f S ∧ R.length = T.length ∧ (∀ x, x ∈ R → 1 ≤ x ∧ x ≤ 12) ∧
  ∀ k H', Same H H' → Fewest T f S (rd R) k → Q (vN k) H'
theorem scFewL : FnScope ["_law_tables_here", "_law_first", "_law_rounds", "_law_come_here", "_law_size", "_law_rows_here", "_law_one", "_law_other"] ["_law_tables_here", "_law_first", "_law_rounds"] (defScope (topS 64)) := ⟨rfl, rfl, rfl, by decide +kernel, rfl, by decide +kernel, by decide +kernel⟩
theorem ok_fewl {f : Addr} {fd : FuncData} (F : Fun K "_law_fewest" "_law_fewest" (topS 64) f fd) (Z : Gls mg) (cc : Cal P w K mg base "_law_come" 1 ["_law_tables_here", "_law_first"] spCome) (cr : Cal P w K mg base "_law_rows" 1 ["_law_size"] spRowsL) (ct : Cal P w K mg base "_law_tells" 1 ["_law_tables_here", "_law_first", "_law_rounds", "_law_witness", "_law_start"] spTells) :
    FnOk P w K mg base CX0 2 f fd ["_law_tables_here", "_law_first", "_law_rounds"] spFewL := by
  refine F.ok scFewL (fun vs H Q E h => ?_) (fun cdv A outer s0 H vs Q E hr h => ?_)
  · obtain ⟨tt, ra, us, T, R, S, n, f, rfl, _⟩ := h; rfl
  · obtain ⟨tt, ra, us, T, R, S, n, f, rfl, htt, hT, hra, tb, hf, M, hRl, hR12, k⟩ := h
    have hlen : us.length = T.length := plen hT
    have D1 := tb.len1
    have D2 := M.len2
    have S4 := M.small
    refine ⟨_, pss_cons (ps_set (i := 3) scFewL.nd rfl (Or.inl rfl) (pe_callB call_len_seq (by rfl) Z.len (by decide +kernel) (pa_cons (pe_cal cc hr (by rfl) (pa_cons (pv 0) (pa_cons (pv 1) pa_nil))) pa_nil)))
      (pss_cons (ps_for PassesOwn.never rfl (pi_range2 (by rfl) Z.range (pa_cons pe_int (pa_cons (pv 3) pa_nil))) (pg_name (i := 4) scFewL.nd rfl (Or.inl rfl))
        (pss_cons (ps_set (i := 5) scFewL.nd rfl (Or.inl rfl) (pe_cal cr hr (by rfl) (pa_cons (pv 4) pa_nil)))
        (pss_one (ps_for PassesOwn.never rfl (pi_list (pv 5)) (pg_name (i := 6) scFewL.nd rfl (Or.inl rfl))
          (pss_one (ps_for PassesOwn.never rfl (pi_list (pe_ifExp (pt_cmpR op_eq (pe_callB call_len_seq (by rfl) Z.len (by decide +kernel) (pa_cons (pv 0) pa_nil)) pe_int (nomark _)) (pv 5) (pe_lst (pa_cons (pe_tup pa_nil) pa_nil)))) (pg_name (i := 7) scFewL.nd rfl (Or.inl rfl))
            (pss_one (ps_if (pt_val (pe_cal ct hr (by rfl) (pa_cons (pv 0) (pa_cons (pv 1) (pa_cons (pv 2) (pa_cons (pe_tup (pa_cons (pv 6) (pa_cons (pv 7) pa_nil))) (pa_cons pe_int pa_nil))))))) (pss_one (ps_ret (pv 4))) pss_nil))))))))
      (pss_one (ps_ret (pv 3)))), ?_⟩
    refine ⟨_, rfl, _, rfl, tt, us, T, n, f, S, rfl, htt, hT, tb, hf, M, fun lq H1 xs s1 hlq hxl => ?_⟩
    refine ⟨lq, xs, rfl, .inl (.of hlq), ?_⟩
    rw [hxl]
    refine ⟨_, rfl, 1, (S.length : Int), rfl, ⟨by decide, by decide, by omega, by omega⟩, ?_⟩
    have eS : ((S.length : Int) - 1).toNat = S.length - 1 := by omega
    have Spos := M.pos
    refine for_it walk_range (fun i σ H2 => ∃ (y4 y5 y6 y7 : Option V), σ = [some (.ref tt), some (vN f), some (.ref ra), some (vN S.length), y4, y5, y6, y7] ∧ Same H H2 ∧ ∀ m W, 1 ≤ m → m < 1 + i → Wit T.length m W → ¬ Tells T f (rd R) W)
      ⟨_, _, _, _, rfl, s1, fun m W h1 h2 => by omega⟩ (fun _ _ _ _ _ => True.intro) ?_ ?_
    · rintro i x σ H2 H2' hi ⟨y4, y5, y6, y7, rfl, s2, no⟩ ⟨rfl, ex⟩
      rw [eS] at hi
      have ex' : x = vN (1 + i) := by rw [ex]; show V.int ((1 : Int) + (i : Int)) = V.int ((1 + i : Nat) : Int); congr 1
      subst ex'
      refine ⟨_, rfl, 1 + i, rfl, by omega, fun rq H3 vs s3 hrq pv' => ?_⟩
      have s23 := s2.trans s3
      have rlen : (rowsT (1 + i) (1 + i)).length ≤ 27 := len_rowsT (by omega) _ (by omega)
      refine ⟨_, rfl, rq, rfl, ⟨_, .of hrq⟩, ?_⟩
      refine for_list (K := K) (a := rq) (xs := vs) (fun j σ H4 => ∃ (y6 y7 : Option V), σ = [some (.ref tt), some (vN f), some (.ref ra), some (vN S.length), some (vN (1 + i)), some (.ref rq), y6, y7] ∧ Same H3 H4 ∧ ∀ one, one ∈ (rowsT (1 + i) (1 + i)).take j → ∀ W, Wit T.length (1 + i) W → W.getD 0 [] = one → ¬ Tells T f (rd R) W)
        ⟨_, _, rfl, Same.refl _, fun one h => by simp at h⟩ (fun j σ H4 _ ⟨_, _, _, z, _⟩ => .of (z _ _ hrq)) ?_ ?_
      · rintro j y σ H4 hy ⟨y6, y7, rfl, s4, no4⟩
        obtain ⟨one, hone, ⟨oa, rfl, hoa⟩⟩ := pget pv' hy
        have honem := List.mem_of_getElem? hone
        obtain ⟨o1, o2, o3⟩ := mem_rowsT.mp honem
        have s24 := s23.trans s4
        -- a try: what it answers
        have try1 : ∀ {H5 : Hp} {ob : Addr} {other : List Nat} {Q' : VK}, Same H4 H5 → H5 ob = some (.tup (other.map vN)) → Wit T.length (1 + i) [one, other] → (∀ (b : Bool) H6, Same H5 H6 → (b = true ↔ Tells T f (rd R) [one, other]) → Q' (.bl b) H6) →
            tCall spTells [] E0 (tCons (tVar 0) (tCons (tVar 1) (tCons (tVar 2) (tCons (tTup (tCons (tVar 6) (tCons (tVar 7) tNil))) (tCons (tC (.int 0)) tNil))))) [some (.ref tt), some (vN f), some (.ref ra), some (vN S.length), some (vN (1 + i)), some (.ref rq), some (.ref oa), some (.ref ob)] H5 Q' := fun {H5 ob other Q'} s5 hob hw k' => by
          refine ⟨_, rfl, _, rfl, _, rfl, _, rfl, _, rfl, (by show 2 ≤ sizeLine; decide), fun wt hwt => ?_⟩
          have s25 := (s24.trans s5).new (o := .tup [V.ref oa, V.ref ob]) hwt
          have hoa5 := at_new (o := .tup [V.ref oa, V.ref ob]) (s5 _ _ (s4 _ _ hoa)) hwt
          have hob5 := at_new (o := .tup [V.ref oa, V.ref ob]) hob hwt
          have k5 := Same.upd (H := H5) (o := .tup [V.ref oa, V.ref ob]) hwt
          have w5 := upd_same (H := H5) (a := wt) (o := .tup [V.ref oa, V.ref ob])
          exact ⟨tt, ra, wt, us, _, T, [one, other], R, S, n, f, 1 + i, rfl, s25 _ _ htt, pmap hT fun _ _ z => TI.keep z (.of s25), w5, .cons ⟨oa, rfl, hoa5⟩ (.cons ⟨ob, rfl, hob5⟩ .nil), s25 _ _ hra, tb, hf, M, hRl, hR12, hw, D2, by omega, by omega, fun b H6 s6 hb => k' b H6 (k5.trans s6) hb⟩
        have found : ∀ {other : List Nat} {H6 : Hp}, Same H4 H6 → Wit T.length (1 + i) [one, other] → Tells T f (rd R) [one, other] → Q (vN (1 + i)) H6 := fun {other H6} s6 hw ht => k (1 + i) H6 (s24.trans s6) ⟨by omega, by omega, fun _ => ⟨_, hw, ht⟩, fun m W h1 h2 hw' => no m W h1 h2 hw'⟩
        have next : ∀ {L : List (List Nat)}, (∀ W, Wit T.length (1 + i) W → W.getD 0 [] = one → ∃ other, other ∈ L ∧ ∀ d, d < T.length → W.getD d [] = ([one, other] : List (List Nat)).getD d []) → (∀ other, other ∈ L → ¬ Tells T f (rd R) [one, other]) → ∀ one', one' ∈ (rowsT (1 + i) (1 + i)).take (j + 1) → ∀ W, Wit T.length (1 + i) W → W.getD 0 [] = one' → ¬ Tells T f (rd R) W := fun {L} cov nL one' h1' W hW e => by
          rw [List.take_add_one, hone] at h1'
          rcases List.mem_append.mp h1' with z | z
          · exact no4 one' z W hW e
          · have z : one' = one := by simpa using z
            subst z
            obtain ⟨other, ho, same⟩ := cov W hW e
            exact fun ht => nL other ho (tells_same same ht)
        refine ⟨_, rfl, tt, us, rfl, .inr (.inl (.inl (s24 _ _ htt))), rfl, _, rfl, ?_⟩
        by_cases hD : T.length = 2
        · refine ifT (by rw [hlen, hD]; rfl) ⟨_, rfl, rq, rfl, ⟨_, .of (s4 _ _ hrq)⟩, ?_⟩
          refine for_list (K := K) (a := rq) (xs := vs) (fun l σ H5 => ∃ (y7 : Option V), σ = [some (.ref tt), some (vN f), some (.ref ra), some (vN S.length), some (vN (1 + i)), some (.ref rq), some (.ref oa), y7] ∧ Same H4 H5 ∧ ∀ other, other ∈ (rowsT (1 + i) (1 + i)).take l → ¬ Tells T f (rd R) [one, other])
            ⟨_, rfl, Same.refl _, fun o h => by simp at h⟩ (fun l σ H5 _ ⟨_, _, z, _⟩ => .of (z _ _ (s4 _ _ hrq))) ?_ ?_
          · rintro l y σ H5 hy5 ⟨y7, rfl, s5, no5⟩
            obtain ⟨other, hoth, ⟨ob, rfl, hob⟩⟩ := pget pv' hy5
            obtain ⟨q1, q2, q3⟩ := mem_rowsT.mp (List.mem_of_getElem? hoth)
            have hw : Wit T.length (1 + i) [one, other] := fun d hd => by
              rcases two_D D2 hd with rfl | ⟨rfl, _⟩
              · exact ⟨o1, o2, o3⟩
              · exact ⟨q1, q2, q3⟩
            refine try1 s5 (s5 _ _ (s4 _ _ hob)) hw fun b H6 s6 hb => ⟨_, rfl, ?_⟩
            cases b with
            | true => exact iteT ⟨_, rfl, found (s5.trans s6) hw (hb.mp rfl)⟩
            | false =>
              refine iteF ⟨_, rfl, s5.trans s6, fun o ho => ?_⟩
              rw [List.take_add_one, hoth] at ho
              obtain z | z := List.mem_append.mp ho
              · exact no5 o z
              · have z : o = other := by simpa using z
                subst z
                exact fun ht => nomatch (hb.mpr ht)
          · rintro σ H5 ⟨y7, rfl, s5, no5⟩
            rw [plen pv', List.take_length] at no5
            refine ⟨_, _, rfl, s4.trans s5, next (fun W hW e => ⟨W.getD 1 [], wit_rows hW (by omega), fun d hd => ?_⟩) no5⟩
            rcases two_D D2 hd with rfl | ⟨rfl, _⟩
            · exact e
            · rfl
        · have hD1 : T.length = 1 := by omega
          refine ifF (fun z => hD (by injection z with z; omega)) ⟨(by show 0 ≤ sizeLine; decide), fun e0 he0 => ⟨(by show 1 ≤ sizeLine; decide), fun ol hol => ⟨ol, rfl, ⟨_, .of upd_same⟩, ?_⟩⟩⟩
          have s5 := (Same.upd (H := H4) (o := .tup []) he0).new (o := .lst [V.ref e0]) hol
          have e5 := at_new (o := .lst [V.ref e0]) (upd_same (H := H4) (a := e0) (o := .tup [])) hol
          have o5 := upd_same (H := upd H4 e0 (.tup [])) (a := ol) (o := .lst [V.ref e0])
          generalize upd (upd H4 e0 (.tup [])) ol (.lst [V.ref e0]) = H5 at s5 e5 o5 ⊢
          have hw : Wit T.length (1 + i) [one, []] := fun d hd => by
            have : d = 0 := by omega
            subst this
            exact ⟨o1, o2, o3⟩
          refine for_list (K := K) (a := ol) (xs := [V.ref e0]) (fun l σ H6 => ∃ (y7 : Option V), σ = [some (.ref tt), some (vN f), some (.ref ra), some (vN S.length), some (vN (1 + i)), some (.ref rq), some (.ref oa), y7] ∧ Same H5 H6 ∧ (l = 1 → ¬ Tells T f (rd R) [one, []]))
            ⟨_, rfl, Same.refl _, fun h => by omega⟩ (fun l σ H6 _ ⟨_, _, z, _⟩ => .of (z _ _ o5)) ?_ ?_
          · rintro l y σ H6 hy6 ⟨y7, rfl, s6, no6⟩
            have hl0 : l = 0 := by
              have := (List.getElem?_eq_some_iff.mp hy6).1
              simp at this; exact this
            subst hl0
            cases hy6
            refine try1 (other := []) (s5.trans s6) (s6 _ _ e5) hw fun b H7 s7 hb => ⟨_, rfl, ?_⟩
            cases b with
            | true => exact iteT ⟨_, rfl, found ((s5.trans s6).trans s7) hw (hb.mp rfl)⟩
            | false => exact iteF ⟨_, rfl, s6.trans s7, fun _ ht => nomatch (hb.mpr ht)⟩
          · rintro σ H6 ⟨y7, rfl, s6, no6⟩
            refine ⟨_, _, rfl, s4.trans (s5.trans s6), next (L := [[]]) (fun W hW e => ⟨[], List.mem_singleton.mpr rfl, fun d hd => ?_⟩) fun o ho => ?_⟩
            · have : d = 0 := by omega
              subst this; exact e
            · rw [List.mem_singleton.mp ho]; exact no6 rfl
      · rintro σ H4 ⟨y6, y7, rfl, s4, no4⟩
        rw [plen pv', List.take_length] at no4
        refine ⟨_, _, _, _, rfl, s23.trans s4, fun m W h1 h2 hW => ?_⟩
        by_cases z : m = 1 + i
        · subst z
          exact no4 (W.getD 0 []) (wit_rows hW (by omega)) W hW rfl
        · exact no m W h1 (by omega) hW
    · rintro σ H2 ⟨y4, y5, y6, y7, rfl, s2, no⟩
      rw [eS] at no
      exact ⟨_, rfl, k S.length H2 s2 ⟨Spos, Nat.le_refl _, fun h => absurd h (Nat.lt_irrefl _), fun m W h1 h2 hW => no m W h1 (by omega) hW⟩⟩
end
end OWP

/-! ## W36 -/
/-! W36: the law: what joins its parts. -/
namespace OWP
open PySem PySem.Spec PyProof.Rows L2 OWR OW
theorem tells_congr {T W : List (List Nat)} {f : Nat} {R R' : Nat → Nat} (h : ∀ d, d < T.length → R d = R' d) (t : Tells T f R W) : Tells T f R' W := fun w w' hw hw' c e => t w w' hw hw' (fun d hd => by rw [h d hd]; exact c d hd) e
theorem fewest_congr {T : List (List Nat)} {f m : Nat} {S : List Nat} {R R' : Nat → Nat} (h : ∀ d, d < T.length → R d = R' d) (F : Fewest T f S R m) : Fewest T f S R' m :=
  ⟨F.pos, F.le, fun hlt => let ⟨W, a, b⟩ := F.some hlt; ⟨W, a, tells_congr h b⟩, fun k W h1 h2 h3 ht => F.none k W h1 h2 h3 (tells_congr (fun d hd => (h d hd).symm) ht)⟩
theorem rd_rep {D t d : Nat} (hd : d < D) : rd (List.replicate D t) d = t := by
  unfold rd
  rw [List.getD_eq_getElem?_getD, List.getElem?_replicate, if_pos hd]; rfl
/-- the law of numbers: fewest standings by rounds, by multiples, in full and by all numbers -/
theorem law_num {T : List (List Nat)} {f : Nat} {S R1 R2 : List Nat} (M : Mach T f S) (mul : ∀ d, d < T.length → ∃ c, rd R2 d = rd R1 d * c) {k1 k2 k3 k4 : Nat} (h1 : Fewest T f S (rd R1) k1) (h2 : Fewest T f S (rd R2) k2) (h3 : Fewest T f S (rd (List.replicate T.length (turnOf S.length))) k3) (h4 : Fewest T f S (rd (List.replicate T.length 0)) k4) :
    k4 = k3 ∧ k3 ≤ k2 ∧ k2 ≤ k1 := by
  have h4' : Fewest T f S (fun _ => 0) k4 := fewest_congr (fun d hd => rd_rep hd) h4
  have h3' : Fewest T f S (fun _ => turnOf S.length) k3 := fewest_congr (fun d hd => rd_rep hd) h3
  have e := Fewest.zero M h4' h3'
  refine ⟨e, ?_, ?_⟩
  · rw [← e]
    exact h2.finer h4' fun d _ a b z => by rw [Nat.mod_zero, Nat.mod_zero] at z; rw [z]
  · refine h1.finer h2 fun d hd a b z => ?_
    obtain ⟨c, hc⟩ := mul d hd
    rw [hc] at z
    have dv : rd R1 d ∣ rd R1 d * c := ⟨c, rfl⟩
    rw [← Nat.mod_mod_of_dvd a dv, ← Nat.mod_mod_of_dvd b dv, z]
theorem shown4 {a b c d : Nat} (ha : a ≤ 4) (hb : b ≤ 4) (hc : c ≤ 4) (hd : d ≤ 4) : (PyData.list (([a, b, c, d].map fun n : Nat => (n : Int)).map PyData.int)).showable = true ∧ (PyData.list (([a, b, c, d].map fun n : Nat => (n : Int)).map PyData.int)).shown.length ≤ 1000 := by
  have h : ∀ a, a < 5 → ∀ b, b < 5 → ∀ c, c < 5 → ∀ d, d < 5 → (PyData.list (([a, b, c, d].map fun n : Nat => (n : Int)).map PyData.int)).showable = true ∧ (PyData.list (([a, b, c, d].map fun n : Nat => (n : Int)).map PyData.int)).shown.length ≤ 1000 := by decide +kernel
  exact h a (by omega) b (by omega) c (by omega) d (by omega)
theorem keepNL {b : Addr} {H H' : Hp} (x : But b H H') (hb : BoxAt H b) {c : Addr} {o : HO} (h : H c = some o) (ho : ∀ xs, o ≠ .lst xs) : H' c = some o := x c o h fun z => by
  obtain ⟨g, r, e, _⟩ := hb
  rw [z, e] at h; exact ho _ (Option.some.inj h).symm
theorem mac_keep {b C m : Addr} {H H' : Hp} {T : List (List Nat)} {n : Nat} (x : But b H H') (hb : BoxAt H b) (h : MacAt C H m T n) : MacAt C H' m T n := by
  obtain ⟨dx, tt, vs, h1, h2, h3⟩ := h
  exact ⟨dx, tt, vs, keepNL x hb h1 (fun _ z => nomatch z), keepNL x hb h2 (fun _ z => nomatch z), pmap h3 fun _ _ z => z.keep (x.tkL hb)⟩
end OWP

/-! ## W37 -/
/-! W37: the law: its walk. -/
namespace OWP
open PySem PySem.Spec PyProof.Rows L2 OWR OW
theorem rep_flat (n t : Nat) : (List.replicate ((n : Int)).toNat [vN t]).flatten = (List.replicate n t).map vN := by
  rw [Int.toNat_natCast, List.map_replicate]
  induction n with
  | zero => rfl
  | succ n ih => rw [List.replicate_succ, List.flatten_cons, ih]; rfl
theorem ifFs {x : V} {A B : Prop} (h : B) : if (!decide (x = x)) = true then A else B := by rw [if_neg (by simp)]; exact h
structure MakD (P : Program) (w : World) (K : PySem.W.Frag) (mg : Str → Option Value) (base : Heap) (CC e : Addr) : Prop where
  ex : ∃ (f : Addr) (fd : FuncData) (ds : List Value), FnOk P w K mg base CX0 4 f fd ["self", "rounds", "rests"] (spCInit K CC) ∧ Mk K CC f ∧ mg "Counters" = some (.ref CC) ∧ Binds K fd ["self", "rounds", "rests"] ds ∧ Vals [V.ref e] ds
  em : EmptyK K e
theorem pe_makd {X : Cx} {CC e0 : Addr} {x : Expr} {es : List Expr} {t : TA} {p pos : Pos} (M : MakD X.prog X.w X.K X.mg X.base CC e0) (hr : Room 5 X.A) (hg : Gl X "Counters") (ha : PA X (x :: es) t)
    (he : starEach (x :: es) X.env = (false, eval x X.env) :: starEach es X.env := by rfl) (hpl : (backTo pos (starEach es X.env)).any (·.1) = false := by rfl) : PE X (.Call (.Name "Counters" p) (x :: es) [] pos) (tMake CC (spCInit X.K CC) [.ref e0] E0 t) := by
  obtain ⟨f, fd, ds, F, Mk1, g, b, hd⟩ := M.ex
  exact pe_make Mk1 F hr hg g b hd pass0 ha (by decide) he hpl
section
variable {P : Program} {w : World} {K : PySem.W.Frag} {mg : Str → Option Value} {base : Heap} {CM CC CP CF : Addr}
def spLaw (K : PySem.W.Frag) : Sp := fun args H Q _ => ∃ (a : Addr) (ns : List Int), args = [.ref a] ∧ SqL K H a (ns.map V.int) ∧ ∀ H', Q (.bl true) H'
abbrev nsLaw : List Str := ["_law_script", "_law_box_here", "_law_k", "_law_tables_here", "_law_first", "_law_machine", "_law_deeds", "_law_rounds", "_law_finer", "_law_turn", "_law_dues", "_law_told", "_law_deed", "_law_some"]
theorem scLaw : FnScope nsLaw ["_law_script"] (defScope (topS 65)) := ⟨rfl, rfl, rfl, by decide +kernel, rfl, by decide +kernel, by decide +kernel⟩
theorem ok_law {f e0 : Addr} {fd : FuncData} (F : Fun K "law" "law" (topS 65) f fd) (Z : Gls mg) (cb : Cal P w K mg base "_law_box" 1 ["_law_script", "_law_k"] (spBox K)) (cp : Cal P w K mg base "_law_pick" 2 ["_law_box_here", "_law_some"] (spPick K)) (ct : Cal P w K mg base "_law_tables" 4 ["_law_box_here", "_law_most", "_law_deeds"] spTabl)
    (cc : Cal P w K mg base "_law_come" 1 ["_law_tables_here", "_law_first"] spCome) (cf : Cal P w K mg base "_law_fewest" 2 ["_law_tables_here", "_law_first", "_law_rounds"] spFewL) (mm : Mak P w K mg base "Machine" CM 6 ["self", "tables"] (spMInit CM)) (mc : MakD P w K mg base CC e0) (cs : CalM P w K mg base "fewest_standings" 11 (spFew CM CC)) :
    FnG P w K mg base CX0 12 f fd ["_law_script"] (spLaw K) := by
  refine fun_okG F scLaw (fun vs H Q E h => ?_) (fun cdv A outer s0 H vs Q E hgd hr h => ?_)
  · obtain ⟨a, ns, rfl, _⟩ := h; rfl
  · obtain ⟨a, ns, rfl, ha, k⟩ := h
    refine ⟨_, pss_cons (ps_set (i := 1) scLaw.nd rfl (Or.inr rfl) (pe_cal cb (hr.mono (by decide)) (by rfl) (pa_cons (pv 0) (pa_cons pe_int pa_nil))))
      (pss_cons (ps_for PassesOwn.never rfl (pi_range1 (by rfl) Z.range (pa_cons pe_int pa_nil)) (pg_name (i := 2) scLaw.nd rfl (Or.inl rfl))
        (pss_cons (ps_asg (pe_cal ct (hr.mono (by decide)) (by rfl) (pa_cons (pv 1) (pa_cons (pe_cal cp (hr.mono (by decide)) (by rfl) (pa_cons (pv 1) (pa_cons (pe_lst (pa_cons pe_int (pa_cons pe_int (pa_cons pe_int pa_nil)))) pa_nil))) (pa_cons pe_int pa_nil)))) (pg_tup rfl (pgs_cons (pg_name (i := 3) scLaw.nd rfl (.inl rfl)) (pgs_cons (pg_name (i := 4) scLaw.nd rfl (.inr rfl)) pgs_nil))))
        (pss_cons (ps_asg (pe_tup (pa_cons (pe_mak mm (hr.mono (by decide)) (by rfl) (pa_cons (pv 3) pa_nil)) (pa_cons (pe_callB call_len_seq (by rfl) Z.len (by decide +kernel) (pa_cons (pv 3) pa_nil)) pa_nil))) (pg_tup rfl (pgs_cons (pg_name (i := 5) scLaw.nd rfl (.inr rfl)) (pgs_cons (pg_name (i := 6) scLaw.nd rfl (.inl rfl)) pgs_nil))))
        (pss_cons (ps_setLc (i := 7) (own := [("_law_deed", 12)]) (g := gName 12) (tt := tYes) (te := tCall (spPick K) [] E0 (tCons (tVar 1) (tCons (tLst (tCons (tC (.int 1)) (tCons (tC (.int 2)) (tCons (tC (.int 3)) (tCons (tC (.int 1)) tNil))))) tNil))) rfl scLaw.nd rfl rfl (by rfl) (pi_range1 (by rfl) Z.range (pa_cons (pv 6) pa_nil)) (blkOk_by (N := nsLaw) (sc := defScope (topS 65)) (by decide +kernel))
            (fun _ _ _ _ _ => pg_name (i := 12) scLaw.nd rfl (.inl rfl)) (fun _ _ _ _ _ => pts_nil) (fun _ _ _ _ _ => pe_cal cp (hr.mono (by decide)) (by rfl) (pa_cons (pv 1) (pa_cons (pe_lst (pa_cons pe_int (pa_cons pe_int (pa_cons pe_int (pa_cons pe_int pa_nil))))) pa_nil))))
        (pss_cons (ps_setLc (i := 8) (own := [("_law_turn", 9)]) (g := gName 9) (tt := tYes) (te := tOp (rI CMul fun i j => .int (i * j)) (tVar 9) (tCall (spPick K) [] E0 (tCons (tVar 1) (tCons (tLst (tCons (tC (.int 1)) (tCons (tC (.int 2)) tNil))) tNil)))) rfl scLaw.nd rfl rfl (by rfl) (pi_list (pv 7)) (blkOk_by (N := nsLaw) (sc := defScope (topS 65)) (by decide +kernel))
            (fun _ _ _ _ _ => pg_name (i := 9) scLaw.nd rfl (.inl rfl)) (fun _ _ _ _ _ => pts_nil) (fun _ _ _ _ _ => pe_op op_mul (pv 9) (pe_cal cp (hr.mono (by decide)) (by rfl) (pa_cons (pv 1) (pa_cons (pe_lst (pa_cons pe_int (pa_cons pe_int pa_nil))) pa_nil)))))
        (pss_cons (ps_set (i := 9) scLaw.nd rfl (Or.inl rfl) (pe_ix ix_list (pe_lst (pa_cons pe_int (pa_cons pe_int (pa_cons pe_int (pa_cons pe_int (pa_cons pe_int pa_nil)))))) (pe_callB call_len_seq (by rfl) Z.len (by decide +kernel) (pa_cons (pe_cal cc (hr.mono (by decide)) (by rfl) (pa_cons (pv 3) (pa_cons (pv 4) pa_nil))) pa_nil)) (fun _ _ => rfl)))
        (pss_cons (ps_set (i := 10) scLaw.nd rfl (Or.inl rfl) (pe_lst (pa_cons (pe_cal cf (hr.mono (by decide)) (by rfl) (pa_cons (pv 3) (pa_cons (pv 4) (pa_cons (pv 7) pa_nil)))) (pa_cons (pe_cal cf (hr.mono (by decide)) (by rfl) (pa_cons (pv 3) (pa_cons (pv 4) (pa_cons (pv 8) pa_nil))))
            (pa_cons (pe_cal cf (hr.mono (by decide)) (by rfl) (pa_cons (pv 3) (pa_cons (pv 4) (pa_cons (pe_op op_rep (pe_lst (pa_cons (pv 9) pa_nil)) (pv 6)) pa_nil)))) pa_nil)))))
        (pss_cons (ps_setLc (i := 11) (own := [("_law_some", 13)]) (g := gName 13) (tt := tYes) (te := tCallN 3 1 (spFew CM CC) (fun vs zs => vs ++ zs) E0 (tCons (tVar 5) (tCons (tVar 4) (tCons (tMake CC (spCInit K CC) [.ref e0] E0 (tCons (tVar 13) tNil)) tNil))) (tCons (tC (.int 50000)) tNil)) rfl scLaw.nd rfl rfl (by rfl)
            (pi_tup (pe_tup (pa_cons (pv 7) (pa_cons (pv 8) (pa_cons (pe_op op_rep (pe_lst (pa_cons (pv 9) pa_nil)) (pv 6)) (pa_cons (pe_op op_rep (pe_lst (pa_cons pe_int pa_nil)) (pv 6)) pa_nil)))))) (blkOk_by (N := nsLaw) (sc := defScope (topS 65)) (by decide +kernel))
            (fun _ _ _ _ _ => pg_name (i := 13) scLaw.nd rfl (.inl rfl)) (fun _ _ _ _ _ => pts_nil) (fun _ _ _ _ _ => pe_calM cs hr (by rfl) (pa_cons (pv 5) (pa_cons (pv 4) (pa_cons (pe_makd mc (hr.mono (by decide)) (by rfl) (pa_cons (pv 13) pa_nil)) pa_nil))) (pk_cons pe_int pk_nil)))
        (pss_one (ps_if (PW.pt (pw_or (pt_cmpR op_ne (pe_callB (cr_reprL hgd hr.units) (by rfl) Z.repr (by decide +kernel) (pa_cons (pv 11) pa_nil)) (pe_callB (cr_reprL hgd hr.units) (by rfl) Z.repr (by decide +kernel) (pa_cons (pe_op op_cat (pv 10) (pe_slice sl_list (pv 10) (po_some pe_int) po_none)) pa_nil)) (nomark _))
            (pw_or1 (pt_not (pt_chain op_le op_le (pe_ix ix_list (pv 10) pe_int (fun _ _ => rfl)) (pe_ix ix_list (pv 10) pe_int (fun _ _ => rfl)) (pe_ix ix_list (pv 10) pe_int (fun _ _ => rfl))))))) (pss_one (ps_ret pe_bl)) pss_nil)))))))))) (pss_one (ps_ret pe_bl))), ?_⟩
    refine ⟨_, rfl, a, ns, rfl, ha, fun b H1 s1 hb0 bx1 => ?_⟩
    refine ⟨2, rfl, by decide, by decide, ?_⟩
    refine for_it walk_range (fun i σ H2 => ∃ (x2 x3 x4 x5 x6 x7 x8 x9 x10 x11 : Option V), σ = [some (.ref a), some (.ref b), x2, x3, x4, x5, x6, x7, x8, x9, x10, x11, none, none] ∧ BoxAt H2 b)
      ⟨none, none, none, none, none, none, none, none, none, none, rfl, bx1⟩ (fun _ _ _ _ _ => True.intro) ?_ ?_
    · rintro i xi σ G G0 hi ⟨x2, x3, x4, x5, x6, x7, x8, x9, x10, x11, rfl, bx0⟩ ⟨rfl, exi⟩
      obtain rfl := yN exi
      have fresh : ∀ {H : Hp} {l : Addr}, BoxAt H b → H l = none → b ≠ l := fun h hl => let ⟨_, e⟩ := h.some; ne_of_none e hl
      -- the tables
      refine ⟨_, rfl, _, rfl, (by show 3 ≤ sizeLine; decide), fun l hl => ⟨b, l, [3, 4, 3], rfl, bx0.keep fun o e => at_new e hl, fresh bx0 hl, upd_same, by decide, by decide, fun most G1 hmost b1 bx1 => ?_⟩⟩
      have hm14 : 1 ≤ most ∧ most ≤ 4 := by
        simp at hmost
        omega
      refine ⟨b, most, rfl, bx1, hm14.1, hm14.2, fun q G2 tq us T n f S b2 bx2 hq htq pT tb hf M => ?_⟩
      refine ⟨q, _, rfl, .inl (.inl hq), rfl, _, _, rfl, _, _, rfl, rfl, ?_⟩
      have hlen : us.length = T.length := plen pT
      have D1 := tb.len1
      have D2 := M.len2
      have S4 := M.small
      -- the machine
      refine ⟨_, rfl, ?_⟩
      intro m dxm hm0 hdm0 hmd
      have sM : Same G2 (upd (upd G2 dxm (.own m)) m (.ins CM dxm [])) := (Same.upd hdm0).new (by rw [upd_ne hmd.symm]; exact hm0)
      refine ⟨m, dxm, tq, us, T, n, rfl, upd_same, sM _ _ htq, pmap pT fun _ _ z => TI.keep z (.of sM), tb, fun G3 b3 hM3 => ⟨rfl, ?_⟩⟩
      have s23 : Same G2 G3 := fun c o e => b3 _ _ (sM _ _ e) (ne_of_none e hm0)
      refine ⟨_, rfl, tq, us, rfl, .inr (.inl (.inl (s23 _ _ htq))), (by show 2 ≤ sizeLine; decide), fun t ht => ?_⟩
      have s34 := Same.upd (H := G3) (o := .tup [V.ref m, V.int us.length]) ht
      have t4 := upd_same (H := G3) (a := t) (o := .tup [V.ref m, V.int us.length])
      generalize upd G3 t (.tup [V.ref m, V.int us.length]) = G4 at s34 t4 ⊢
      refine ⟨t, _, rfl, .inl (.inl t4), rfl, _, _, rfl, _, _, rfl, rfl, ?_⟩
      have s24 := s23.trans s34
      have htq4 := s24 _ _ htq
      have pT4 := pmap pT fun _ _ z => TI.keep z (.of s24)
      have hM4 := hM3.keep s34
      have bx4 : BoxAt G4 b := bx2.keep fun o e => s24 _ _ e
      -- rounds
      refine ⟨_, rfl, (us.length : Int), rfl, by omega, by omega, fun rl hrl => ?_⟩
      have nbr := fresh bx4 hrl
      refine lc_it walk_range (fun i G => BoxAt G b ∧ But b G4 G ∧ ∃ R : List Nat, G rl = some (.lst (R.map vN)) ∧ R.length = i ∧ ∀ x, x ∈ R → 1 ≤ x ∧ x ≤ 3) ⟨bx4.keep fun o e => at_new e hrl, But.refl.new hrl, [], upd_same, rfl, fun _ h => nomatch h⟩ (fun _ _ _ _ => True.intro) ?_ ?_
      · rintro i5 x5 Hx G5 hi5 ⟨bx5, b45, R, h5, lR, R3⟩ ⟨rfl, ex5⟩
        rw [Int.toNat_natCast] at hi5
        refine ⟨rfl, yes ⟨_, rfl, (by show 4 ≤ sizeLine; decide), fun l hl => ⟨b, l, [1, 2, 3, 1], rfl, bx5.keep fun o e => at_new e hl, fresh bx5 hl, upd_same, by decide, by decide, fun r G6 hr6 b6 bx6 => ?_⟩⟩⟩
        have h6 := b6 _ _ (at_new h5 hl) nbr.symm
        have r3 : 1 ≤ r ∧ r ≤ 3 := by
          simp at hr6
          omega
        refine ⟨R.map vN, h6, by rw [List.length_map]; exact small1000 (by omega), bx6.keep fun o e => by rw [upd_ne nbr]; exact e, ((b45.new hl).trans b6).mut hrl, R ++ [r], by rw [upd_same, List.map_append]; rfl, by rw [List.length_append, lR]; rfl, fun x hx => ?_⟩
        obtain z | z := List.mem_append.mp hx
        · exact R3 x z
        · rw [List.mem_singleton.mp z]; exact r3
      · rintro G5 ⟨bx5, b45, R, hR5, lR, R3⟩
        rw [Int.toNat_natCast, hlen] at lR
        have htq5 := keepNL b45 bx4 htq4 (fun _ z => nomatch z)
        have pT5 := pmap pT4 fun _ _ z => TI.keep z (b45.tkL bx4)
        have hM5 := mac_keep b45 bx4 hM4
        -- multiples
        refine ⟨_, rfl, rl, rfl, ⟨_, .of hR5⟩, fun fl hfl => ?_⟩
        have nbf := fresh bx5 hfl
        refine lc_list (K := K) (a := rl) (xs := R.map vN) (fun i G => BoxAt G b ∧ But b G5 G ∧ ∃ R2 : List Nat, G fl = some (.lst (R2.map vN)) ∧ R2.length = i ∧ ∀ d, d < i → ∃ c, (c = 1 ∨ c = 2) ∧ R2.getD d 0 = R.getD d 0 * c) ⟨bx5.keep fun o e => at_new e hfl, But.refl.new hfl, [], upd_same, rfl, fun d h => by omega⟩ (fun i G _ z => .of (z.2.1 _ _ hR5 nbr.symm)) ?_ ?_
        · rintro i6 x6 G6 hx6 ⟨bx6, b56, R2, h6, lR2, m6⟩
          obtain ⟨r, hr6, rfl⟩ := map_vN_get hx6
          have hi6 : i6 < R.length := (List.getElem?_eq_some_iff.mp hr6).1
          have er : R.getD i6 0 = r := by rw [List.getD_eq_getElem?_getD, hr6]; rfl
          have r3 := R3 r (List.mem_of_getElem? hr6)
          refine ⟨rfl, yes ⟨_, rfl, _, rfl, (by show 2 ≤ sizeLine; decide), fun l hl => ⟨b, l, [1, 2], rfl, bx6.keep fun o e => at_new e hl, fresh bx6 hl, upd_same, by decide, by decide, fun c G7 hc b7 bx7 => ⟨_, _, rfl, rfl, .inl ⟨by omega, by omega⟩, ?_⟩⟩⟩⟩
          have h7 := b7 _ _ (at_new h6 hl) nbf.symm
          have c2 : c = 1 ∨ c = 2 := by simpa using hc
          have ev : V.int ((r : Int) * (c : Int)) = vN (r * c) := by show V.int _ = V.int _; rw [Int.natCast_mul]
          refine ⟨R2.map vN, h7, by rw [List.length_map]; exact small1000 (by omega), bx7.keep fun o e => by rw [upd_ne nbf]; exact e, ((b56.new hl).trans b7).mut hfl, R2 ++ [r * c], ?_, by rw [List.length_append, lR2]; rfl, fun d hd => ?_⟩
          · rw [upd_same, List.map_append]; exact congrArg (fun v => some (HO.lst (R2.map vN ++ [v]))) ev
          · by_cases z : d = i6
            · subst z
              refine ⟨c, c2, ?_⟩
              rw [er, List.getD_eq_getElem?_getD, List.getElem?_append_right (by omega), lR2, Nat.sub_self]; rfl
            · obtain ⟨c', z1, z2⟩ := m6 d (by omega)
              exact ⟨c', z1, by rw [getD_app (by omega)]; exact z2⟩
        · rintro G6 ⟨bx6, b56, R2, hF6, lR2, m6⟩
          rw [List.length_map] at lR2 m6
          have htq6 := keepNL b56 bx5 htq5 (fun _ z => nomatch z)
          have pT6 := pmap pT5 fun _ _ z => TI.keep z (b56.tkL bx5)
          have hM6 := mac_keep b56 bx5 hM5
          have hR6 := b56 _ _ hR5 nbr.symm
          have R2b : ∀ x, x ∈ R2 → 1 ≤ x ∧ x ≤ 12 := fun x hx => by
            obtain ⟨d, hd, e⟩ := List.getElem_of_mem hx
            obtain ⟨c, hc, z⟩ := m6 d (by omega)
            rw [getD_at hd, e] at z
            have := R3 (R.getD d 0) (getD_mem (by omega))
            rcases hc with rfl | rfl <;> omega
          have tp : ∀ m, m ≤ 4 → 1 ≤ turnOf m ∧ turnOf m ≤ 12 := by
            have : ∀ m, m < 5 → 1 ≤ turnOf m ∧ turnOf m ≤ 12 := by decide
            exact fun m h => this m (by omega)
          have tb12 := tp S.length S4
          have rl1 : R.length = T.length := lR
          have rl2 : R2.length = T.length := by omega
          -- the whole turn
          refine ⟨(by show 5 ≤ sizeLine; decide), fun tl htl => ⟨_, rfl, _, rfl, tq, us, T, n, f, S, rfl, at_new htq6 htl, pmap pT6 fun _ _ z => TI.keep z (TK.new htl), tb, hf, M, fun cq G8 xs s8 hcq hxl => ?_⟩⟩
          have s68 := (Same.upd (H := G6) (o := .lst [V.int 1, V.int 1, V.int 2, V.int 6, V.int 12]) htl).trans s8
          refine ⟨cq, xs, rfl, .inl (.of hcq), tl, _, _, vN (turnOf S.length), rfl, rfl, .of (s8 _ _ upd_same), ?_, ?_⟩
          · rw [hxl]; exact at_vN (l := [1, 1, 2, 6, 12]) (by show S.length < 5; omega)
          generalize htn : turnOf S.length = tn at tb12
          -- the dues
          have g8 := fun {c : Addr} {o : HO} (e : G6 c = some o) => s68 _ _ e
          refine ⟨_, rfl, _, rfl, _, rfl, tq, rl, us, T, R, S, n, f, rfl, g8 htq6, pmap pT6 fun _ _ z => TI.keep z (.of s68), g8 hR6, tb, hf, M, rl1, fun x hx => ⟨(R3 x hx).1, by have := (R3 x hx).2; omega⟩, fun k1 G9 s9 F1 => ?_⟩
          have s69 := s68.trans s9
          refine ⟨_, rfl, _, rfl, _, rfl, tq, fl, us, T, R2, S, n, f, rfl, s69 _ _ htq6, pmap pT6 fun _ _ z => TI.keep z (.of s69), s69 _ _ hF6, tb, hf, M, rl2, R2b, fun k2 G10 s10 F2 => ?_⟩
          have s610 := s69.trans s10
          have lenR : ∀ {t : Nat}, 1 * ((us.length : Int)).toNat ≤ sizeLine := fun {t} => Nat.le_of_lt (small1000 (by omega))
          refine ⟨_, rfl, _, rfl, _, rfl, (by show 1 ≤ sizeLine; decide), fun z hz => ⟨_, rfl, z, (us.length : Int), [vN tn], rfl, rfl, upd_same, by omega, by omega, lenR (t := 0), fun z2 hz2 => ?_⟩⟩
          have s611 := (s610.new (o := .lst [vN tn]) hz).new (o := .lst (List.replicate ((us.length : Int)).toNat [vN tn]).flatten) hz2
          have h11 := upd_same (H := upd G10 z (.lst [vN tn])) (a := z2) (o := .lst (List.replicate ((us.length : Int)).toNat [vN tn]).flatten)
          generalize upd (upd G10 z (.lst [vN tn])) z2 (.lst (List.replicate ((us.length : Int)).toNat [vN tn]).flatten) = G11 at s611 h11 ⊢
          rw [rep_flat, hlen] at h11
          refine ⟨tq, z2, us, T, List.replicate T.length tn, S, n, f, rfl, s611 _ _ htq6, pmap pT6 fun _ _ z => TI.keep z (.of s611), h11, tb, hf, M, List.length_replicate, fun x hx => by rw [List.eq_of_mem_replicate hx]; exact tb12, fun k3 G12 s12 F3 => ⟨(by show 3 ≤ sizeLine; decide), fun dl hdl => ?_⟩⟩
          have s613 := (s611.trans s12).new (o := .lst [vN k1, vN k2, vN k3]) hdl
          have hdl13 := upd_same (H := G12) (a := dl) (o := .lst [vN k1, vN k2, vN k3])
          generalize upd G12 dl (.lst [vN k1, vN k2, vN k3]) = G13 at s613 hdl13 ⊢
          -- what is told
          refine ⟨_, rfl, _, rfl, _, rfl, (by show 1 ≤ sizeLine; decide), fun z3 hz3 => ⟨_, rfl, z3, (us.length : Int), [vN tn], rfl, rfl, upd_same, by omega, by omega, lenR (t := 0), fun z4 hz4 => ?_⟩⟩
          have s14 := (Same.upd (H := G13) (o := .lst [vN tn]) hz3).new (o := .lst (List.replicate ((us.length : Int)).toNat [vN tn]).flatten) hz4
          have h14 := upd_same (H := upd G13 z3 (.lst [vN tn])) (a := z4) (o := .lst (List.replicate ((us.length : Int)).toNat [vN tn]).flatten)
          generalize upd (upd G13 z3 (.lst [vN tn])) z4 (.lst (List.replicate ((us.length : Int)).toNat [vN tn]).flatten) = G14 at s14 h14 ⊢
          rw [rep_flat, hlen] at h14
          refine ⟨(by show 1 ≤ sizeLine; decide), fun z5 hz5 => ⟨_, rfl, z5, (us.length : Int), [vN 0], rfl, rfl, upd_same, by omega, by omega, lenR (t := 0), fun z6 hz6 => ?_⟩⟩
          have s15 := (Same.upd (H := G14) (o := .lst [V.int 0]) hz5).new (o := .lst (List.replicate ((us.length : Int)).toNat [vN 0]).flatten) hz6
          have h15 := upd_same (H := upd G14 z5 (.lst [V.int 0])) (a := z6) (o := .lst (List.replicate ((us.length : Int)).toNat [vN 0]).flatten)
          generalize upd (upd G14 z5 (.lst [V.int 0])) z6 (.lst (List.replicate ((us.length : Int)).toNat [vN 0]).flatten) = G15 at s15 h15 ⊢
          rw [rep_flat, hlen] at h15
          refine ⟨(by show 4 ≤ sizeLine; decide), fun it hit => ?_⟩
          have s615 := (s613.trans (s14.trans s15)).new (o := .tup [V.ref rl, V.ref fl, V.ref z4, V.ref z6]) hit
          have s13f := (s14.trans s15).new (o := .tup [V.ref rl, V.ref fl, V.ref z4, V.ref z6]) hit
          have s14f := s15.new (o := .tup [V.ref rl, V.ref fl, V.ref z4, V.ref z6]) hit
          have hz6f := at_new (o := .tup [V.ref rl, V.ref fl, V.ref z4, V.ref z6]) h15 hit
          have hitf := upd_same (H := G15) (a := it) (o := .tup [V.ref rl, V.ref fl, V.ref z4, V.ref z6])
          generalize upd G15 it (.tup [V.ref rl, V.ref fl, V.ref z4, V.ref z6]) = G16 at s615 s13f s14f hz6f hitf ⊢
          have hz4f := s14f _ _ h14
          have hdlf := s13f _ _ hdl13
          have hMf := hM6.keep s615
          rw [← htn] at F3
          have each : ∀ i x, ([V.ref rl, V.ref fl, V.ref z4, V.ref z6] : List V)[i]? = some x → i < 4 ∧ ∃ ra Ri, x = V.ref ra ∧ G16 ra = some (.lst (Ri.map vN)) ∧ Ri.length = T.length ∧ (∀ r, r ∈ Ri → r ≤ 60) ∧ (i = 3 → Ri = List.replicate T.length 0) ∧ ∀ k, Fewest T f S (rd Ri) k → ([k1, k2, k3, k3] : List Nat)[i]? = some k := fun i x hx => by
            have hi4 : i < 4 := by have := (List.getElem?_eq_some_iff.mp hx).1; simpa using this
            refine ⟨hi4, ?_⟩
            have : i = 0 ∨ i = 1 ∨ i = 2 ∨ i = 3 := by omega
            rcases this with rfl | rfl | rfl | rfl
            · cases hx
              exact ⟨rl, R, rfl, s615 _ _ hR6, rl1, fun r hr => by have := (R3 r hr).2; omega, fun h => by omega, fun k hk => by rw [hk.unique F1]; rfl⟩
            · cases hx
              exact ⟨fl, R2, rfl, s615 _ _ hF6, rl2, fun r hr => by have := (R2b r hr).2; omega, fun h => by omega, fun k hk => by rw [hk.unique F2]; rfl⟩
            · cases hx
              exact ⟨z4, List.replicate T.length tn, rfl, hz4f, List.length_replicate, fun r hr => by rw [List.eq_of_mem_replicate hr]; omega, fun h => by omega, fun k hk => by rw [← htn] at hk; rw [hk.unique F3]; rfl⟩
            · cases hx
              exact ⟨z6, List.replicate T.length 0, rfl, hz6f, List.length_replicate, fun r hr => by rw [List.eq_of_mem_replicate hr]; omega, fun _ => rfl, fun k hk => by rw [(law_num M (R1 := R) (R2 := R) (fun d _ => ⟨1, by rw [Nat.mul_one]⟩) F1 F1 F3 hk).1]; rfl⟩
          refine ⟨it, rfl, ⟨_, .inl (.inl hitf)⟩, fun L hL => ?_⟩
          refine lc_tup (K := K) (a := it) (xs := [V.ref rl, V.ref fl, V.ref z4, V.ref z6]) (fun i G => Same G16 G ∧ G L = some (.lst ((([k1, k2, k3, k3] : List Nat).take i).map vN)) ∧ (4 ≤ i → Fewest T f S (rd (List.replicate T.length 0)) k3)) ⟨Same.upd hL, upd_same, fun h => by omega⟩ (fun i G _ z => .inl (.inl (z.1 _ _ hitf))) ?_ ?_
          · rintro i7 x7 G17 hx7 ⟨s17, h17, z17⟩
            obtain ⟨hi4, ra, Ri, rfl, hra, lRi, Ri60, e3, ek⟩ := each i7 x7 hx7
            refine ⟨rfl, yes ⟨_, rfl, _, rfl, _, rfl, ?_⟩⟩
            intro c dxc hc0 hdc0 hcd
            have sC : Same G17 (upd (upd G17 dxc (.own c)) c (.ins CC dxc [])) := (Same.upd hdc0).new (by rw [upd_ne hcd.symm]; exact hc0)
            refine ⟨c, dxc, ra, e0, Ri, rfl, upd_same, mc.em, sC _ _ (s17 _ _ hra), by omega, by omega, Ri60, fun G18 b18 hC => ⟨rfl, ?_⟩⟩
            have s1718 : Same G17 G18 := fun d o e => b18 _ _ (sC _ _ e) (ne_of_none e hc0)
            refine ⟨rfl, rfl, m, c, T, n, f, 50000, S, Ri, rfl, hMf.keep (s17.trans s1718), hC, ⟨tb, hf, M, lRi, Ri60⟩, by decide, fun k' G19 s19 few => ?_⟩
            have s1719 := s1718.trans s19
            refine ⟨_, s1719 _ _ h17, by rw [List.length_map, List.length_take]; exact small1000 (by simp; omega), (s17.trans s1719).mut hL, ?_, fun h4 => ?_⟩
            · rw [upd_same, List.take_add_one, ek k' few, List.map_append]; rfl
            · have i3 : i7 = 3 := by omega
              have ee := ek k' few
              rw [e3 i3] at few
              subst i3
              have : k3 = k' := Option.some.inj ee
              rw [this]; exact few
          · rintro G17 ⟨s17, h17, z17⟩
            have F4 := z17 (Nat.le_refl 4)
            have h17 : G17 L = some (.lst (([k1, k2, k3, k3] : List Nat).map vN)) := h17
            have h1 := F1.le
            have h2 := F2.le
            have h3 := F3.le
            have sh := shown4 (a := k1) (b := k2) (c := k3) (d := k3) (by omega) (by omega) (by omega) (by omega)
            have eL : (([k1, k2, k3, k3] : List Nat).map fun n : Nat => (n : Int)).map V.int = ([k1, k2, k3, k3] : List Nat).map vN := rfl
            have hdl17 := s17 _ _ hdlf
            refine ⟨_, rfl, L, ([k1, k2, k3, k3] : List Nat).map fun n : Nat => (n : Int), rfl, .of (by rw [eL]; exact h17), sh.1, Nat.le_of_lt (small1000 sh.2), ?_⟩
            refine ⟨_, rfl, _, rfl, _, rfl, dl, _, rfl, .of hdl17, fun p hp => ?_⟩
            have hdl18 := at_new (o := .lst (cutV [vN k1, vN k2, vN k3] (some 2) none)) hdl17 hp
            refine ⟨dl, p, _, _, rfl, rfl, hdl18, upd_same, by rw [show cutV [vN k1, vN k2, vN k3] (some 2) none = [vN k3] from cut_from _ 2]; show 3 + 1 ≤ sizeLine; decide, fun p2 hp2 => ?_⟩
            refine ⟨p2, ([k1, k2, k3, k3] : List Nat).map fun n : Nat => (n : Int), rfl, .of (by rw [eL, upd_same, show cutV [vN k1, vN k2, vN k3] (some 2) none = [vN k3] from cut_from _ 2]; rfl), sh.1, Nat.le_of_lt (small1000 sh.2), rfl, _, rfl, ?_⟩
            have hdl19 := at_new (o := .lst ([vN k1, vN k2, vN k3] ++ cutV [vN k1, vN k2, vN k3] (some 2) none)) hdl18 hp2
            refine ifFs ?_
            obtain ⟨_, le1, le2⟩ := law_num M (R1 := R) (R2 := R2) (fun d hd => by
              obtain ⟨c, _, z⟩ := m6 d (by omega)
              exact ⟨c, z⟩) F1 F2 F3 F4
            refine ⟨_, rfl, dl, _, 2, vN k3, rfl, rfl, .of hdl19, rfl, _, rfl, dl, _, 1, vN k2, rfl, rfl, .of hdl19, rfl, _, _, rfl, rfl, _, rfl, ifT (by omega) ⟨_, rfl, dl, _, 0, vN k1, rfl, rfl, .of hdl19, rfl, _, _, rfl, rfl, _, rfl, ?_⟩⟩
            have q21 : decide ((k2 : Int) ≤ (k1 : Int)) = true := decide_eq_true (by omega)
            rw [q21]
            refine iteF ⟨_, _, _, _, _, _, _, _, _, _, rfl, bx6.keep fun o e => at_new (at_new (s17 _ _ (s615 _ _ e)) hp) hp2⟩
    · rintro σ H2 ⟨x2, x3, x4, x5, x6, x7, x8, x9, x10, x11, rfl, bx⟩
      exact k H2
end
end OWP

/-! ## W38 -/
/-! W38: what the top has written, as facts; all defs joined. -/
namespace OWP
open PySem PySem.Spec PyProof.Rows L2 OWR OW
def GF (K : PySem.W.Frag) (x : Str) (st : Stmt) : Prop := ∃ f fd, PySem.W.nsIn K mainGlobals x = some (some (.ref f)) ∧ L2.Fun K x x st f fd
theorem gf {K : PySem.W.Frag} {x : Str} {st : Stmt} {f : Addr} {oc : Value} {od an : Option Addr} {osl : Array (Option Value)} {kV doc pm cdv ct : Value} (a : PySem.W.nsIn K mainGlobals x = some (some (.ref f)))
    (l : K.lookup f = some ⟨oc, od, .func (PySem.W.fnOf x x (defArgs st) (defBody st) (defScope st) .none kV doc pm an cdv ct), osl⟩) (c : PySem.W.codeIn K cdv x = true) (k : PySem.W.keepIn K (.ref f) = true) : GF K x st := ⟨_, _, a, fun_mk l c k⟩
def MF (K : PySem.W.Frag) (C : Addr) (m qual : Str) (st : Stmt) : Prop := ∃ f fd, L2.Fun K m qual st f fd ∧ Meth K C m f
theorem mf {K : PySem.W.Frag} {C : Addr} {m qual : Str} {st : Stmt} {f : Addr} {oc : Value} {od an : Option Addr} {osl : Array (Option Value)} {kV doc pm cdv ct : Value} (a : PySem.W.findIn K (.ref C) m = some (some (.ref f))) (i : PySem.W.isFn K (.ref f) = true)
    (l : K.lookup f = some ⟨oc, od, .func (PySem.W.fnOf m qual (defArgs st) (defBody st) (defScope st) .none kV doc pm an cdv ct), osl⟩) (c : PySem.W.codeIn K cdv qual = true) (k : PySem.W.keepIn K (.ref f) = true) : MF K C m qual st := ⟨_, _, fun_mk l c k, ⟨a, i, k⟩⟩
structure CF (K : PySem.W.Frag) (x : Str) (C : Addr) : Prop where
  at' : PySem.W.nsIn K mainGlobals x = some (some (.ref C))
  cls : Cls K C
  ms : PySem.W.makesIn K C = true
  kc : PySem.W.keepIn K (.ref C) = true
section
variable {P : Program} {w : World} {K : PySem.W.Frag} {mg : Str → Option Value} {base h : Heap}
theorem GF.cal {x : Str} {st : Stmt} {k : Nat} {ps : List Str} {sp : Sp} (g : GF K x st) (X : K.In h) (G : h.Ns mainGlobals mg) (ok : ∀ {f fd}, L2.Fun K x x st f fd → FnOk P w K mg base CX0 k f fd ps sp)
    (b : ∀ (kV doc pm : Value) (an : Option Addr) (cdv ct : Value) (us : List Value), us.length = ps.length → bindArgs (PySem.W.fnOf x x (defArgs st) (defBody st) (defScope st) .none kV doc pm an cdv ct) ⟨us, []⟩ = pure (ps.zip us)) : Cal P w K mg base x k ps sp := by
  obtain ⟨f, fd, a, F⟩ := g
  exact ⟨f, fd, ok F, PySem.W.mg_of X G a, F.kp, F.binds b⟩
theorem MF.mth {C : Addr} {m qual : Str} {st : Stmt} {k : Nat} {ps : List Str} {sp : Sp} (g : MF K C m qual st) (ok : ∀ {f fd}, L2.Fun K m qual st f fd → FnOk P w K mg base CX0 k f fd ps sp)
    (b : ∀ (kV doc pm : Value) (an : Option Addr) (cdv ct : Value) (us : List Value), us.length = ps.length → bindArgs (PySem.W.fnOf m qual (defArgs st) (defBody st) (defScope st) .none kV doc pm an cdv ct) ⟨us, []⟩ = pure (ps.zip us)) : Mth P w K mg base C m k ps sp := by
  obtain ⟨f, fd, F, M⟩ := g
  exact ⟨f, fd, ok F, M, F.binds b⟩
theorem MF.mak {x : Str} {C : Addr} {qual : Str} {st : Stmt} {k : Nat} {ps : List Str} {sp : Sp} (g : MF K C "__init__" qual st) (c : CF K x C) (X : K.In h) (G : h.Ns mainGlobals mg) (ok : ∀ {f fd}, L2.Fun K "__init__" qual st f fd → FnOk P w K mg base CX0 k f fd ps sp)
    (b : ∀ (kV doc pm : Value) (an : Option Addr) (cdv ct : Value) (us : List Value), us.length = ps.length → bindArgs (PySem.W.fnOf "__init__" qual (defArgs st) (defBody st) (defScope st) .none kV doc pm an cdv ct) ⟨us, []⟩ = pure (ps.zip us)) : Mak P w K mg base x C k ps sp := by
  obtain ⟨f, fd, F, M⟩ := g
  exact ⟨f, fd, ok F, ⟨c.ms, M.at_, M.fn, c.kc⟩, PySem.W.mg_of X G c.at', F.binds b⟩
end
structure CtrF (K : PySem.W.Frag) (C : Addr) : Prop where
  cf : CF K "Counters" C
  rd : PySem.W.findIn K (.ref C) "rounds" = some none
  rs : PySem.W.findIn K (.ref C) "rests" = some none
  ini : ∃ f fd e, FunD K "__init__" "Counters.__init__" (defArgs sCInit) (defBody sCInit) (defScope sCInit) [V.ref e] [] f fd ∧ Meth K C "__init__" f ∧ EmptyK K e
theorem ctr_ini {K : PySem.W.Frag} {C f T e : Addr} {oc oc2 : Value} {od an od2 od3 : Option Addr} {osl osl2 osl3 : Array (Option Value)} {kV doc pm cdv ct : Value} {n2 n3 : Nat} (a : PySem.W.findIn K (.ref C) "__init__" = some (some (.ref f))) (i : PySem.W.isFn K (.ref f) = true)
    (l : K.lookup f = some ⟨oc, od, .func (PySem.W.fnOf "__init__" "Counters.__init__" (defArgs sCInit) (defBody sCInit) (defScope sCInit) (.ref T) kV doc pm an cdv ct), osl⟩) (c : PySem.W.codeIn K cdv "Counters.__init__" = true) (k : PySem.W.keepIn K (.ref f) = true)
    (lT : K.lookup T = some ⟨oc2, od2, .seq #[.ref e] n2, osl2⟩) (le : K.lookup e = some ⟨.type "tuple", od3, .seq #[] n3, osl3⟩) :
    ∃ f fd e, FunD K "__init__" "Counters.__init__" (defArgs sCInit) (defBody sCInit) (defScope sCInit) [V.ref e] [] f fd ∧ Meth K C "__init__" f ∧ EmptyK K e :=
  ⟨f, _, e, ⟨⟨_, _, _, _, _, _, _, _, _, _, rfl, l, c, .inr ⟨by simp, T, _, [.ref e], n2, rfl, lT, rfl, .cons rfl .nil⟩, .inl rfl⟩, k⟩, ⟨a, i, k⟩, ⟨_, n3, le, rfl, rfl⟩⟩
structure MachF (K : PySem.W.Frag) (C : Addr) : Prop where
  cf : CF K "Machine" C
  tb : PySem.W.findIn K (.ref C) "tables" = some none
  dd : PySem.W.findIn K (.ref C) "deeds" = some none
  st : PySem.W.findIn K (.ref C) "states" = some none
  ini : MF K C "__init__" "Machine.__init__" sMInit
structure PartF (K : PySem.W.Frag) (C : Addr) : Prop where
  cf : CF K "Parting" C
  hm : PySem.W.findIn K (.ref C) "homes" = some none
  ini : MF K C "__init__" "Parting.__init__" sPInit
  home : MF K C "home" "Parting.home" sPHome
  unite : MF K C "unite" "Parting.unite" sPUnite
  lots : MF K C "all_lots" "Parting.all_lots" sPLots
structure FindF (K : PySem.W.Frag) (C : Addr) : Prop where
  cf : CF K "Finder" C
  ma : PySem.W.findIn K (.ref C) "machine" = some none
  fi : PySem.W.findIn K (.ref C) "first" = some none
  co : PySem.W.findIn K (.ref C) "counters" = some none
  mo : PySem.W.findIn K (.ref C) "most" = some none
  lo : PySem.W.findIn K (.ref C) "looked" = some none
  ini : MF K C "__init__" "Finder.__init__" sFInit
  on : MF K C "begun_on" "Finder.begun_on" sFOn
  fit : MF K C "fitting" "Finder.fitting" sFFit
structure NoF (K : PySem.W.Frag) : Prop where
  n0 : PySem.W.nsIn K mainGlobals "isinstance" = some none
  n1 : PySem.W.nsIn K mainGlobals "int" = some none
  n2 : PySem.W.nsIn K mainGlobals "bool" = some none
  n3 : PySem.W.nsIn K mainGlobals "list" = some none
  n4 : PySem.W.nsIn K mainGlobals "tuple" = some none
  n5 : PySem.W.nsIn K mainGlobals "len" = some none
  n6 : PySem.W.nsIn K mainGlobals "all" = some none
  n7 : PySem.W.nsIn K mainGlobals "range" = some none
  n8 : PySem.W.nsIn K mainGlobals "enumerate" = some none
  n9 : PySem.W.nsIn K mainGlobals "sorted" = some none
  n10 : PySem.W.nsIn K mainGlobals "zip" = some none
  n11 : PySem.W.nsIn K mainGlobals "min" = some none
  n12 : PySem.W.nsIn K mainGlobals "max" = some none
  n13 : PySem.W.nsIn K mainGlobals "abs" = some none
  n14 : PySem.W.nsIn K mainGlobals "repr" = some none
structure ConF (K : PySem.W.Frag) : Prop where
  c0 : ∃ t, PySem.W.nsIn K mainGlobals "MOST_DEEDS" = some (some (.int 4 t))
  c1 : ∃ t, PySem.W.nsIn K mainGlobals "MOST_STATES" = some (some (.int 8 t))
  c2 : ∃ t, PySem.W.nsIn K mainGlobals "MOST_ROUND" = some (some (.int 60 t))
  c3 : ∃ t, PySem.W.nsIn K mainGlobals "MOST_REST" = some (some (.int 6 t))
theorem bt1 {K : PySem.W.Frag} {x qual y : Str} {st : Stmt} {f : Addr} {fd : FuncData} (F : L2.Fun K x qual st f fd) (b : ∀ (kV doc pm : Value) (an : Option Addr) (cdv ct v : Value), bindArgs (PySem.W.fnOf x qual (defArgs st) (defBody st) (defScope st) .none kV doc pm an cdv ct) ⟨[v], []⟩ = pure [(y, v)]) (s : Shared) (v : Value) : BindsTo s fd ⟨[v], []⟩ [(y, v)] := by
  obtain ⟨_, _, kV, doc, pm, an, cdv, ct, _, rfl, _, _⟩ := F.ex
  exact .of_eq (b kV doc pm an cdv ct v)
theorem all_mk {l : PySem.W.OpenLaw} {w : World} {K : PySem.W.Frag} {h : Heap} {mg : Str → Option Value} {fa CM CC CP CF' : Addr} (X : K.In h) (G : h.Ns mainGlobals mg) (hfa : mg "law" = some (.ref fa))
    (f12 : GF K "is_integer" (topS 12))
    (f13 : GF K "is_number" (topS 13))
    (f14 : GF K "is_below" (topS 14))
    (f15 : GF K "is_within" (topS 15))
    (f16 : GF K "is_sequence" (topS 16))
    (f18 : GF K "check_rounds" (topS 18))
    (f19 : GF K "check_rests" (topS 19))
    (f21 : GF K "need_fit" (topS 21))
    (f23 : GF K "is_table" (topS 23))
    (f24 : GF K "check_tables" (topS 24))
    (f26 : GF K "need_state" (topS 26))
    (f27 : GF K "reached" (topS 27))
    (f28 : GF K "forgotten" (topS 28))
    (f29 : GF K "need_exchanges" (topS 29))
    (f32 : GF K "all_pairs" (topS 32))
    (f33 : GF K "turned" (topS 33))
    (f34 : GF K "told_unions" (topS 34))
    (f35 : GF K "lots_by_moves" (topS 35))
    (f36 : GF K "moves_of" (topS 36))
    (f37 : GF K "settled" (topS 37))
    (f39 : GF K "need_kept" (topS 39))
    (f40 : GF K "lots_of" (topS 40))
    (f42 : GF K "are_parted" (topS 42))
    (f44 : GF K "begun_moves" (topS 44))
    (f45 : GF K "known_end" (topS 45))
    (f46 : GF K "known_unions" (topS 46))
    (f47 : GF K "can_tell" (topS 47))
    (f48 : GF K "open_spot" (topS 48))
    (f49 : GF K "with_step" (topS 49))
    (f51 : GF K "own_tables" (topS 51))
    (f55 : GF K "_law_box" (topS 55))
    (f56 : GF K "_law_take" (topS 56))
    (f57 : GF K "_law_pick" (topS 57))
    (f58 : GF K "_law_mixed" (topS 58))
    (f59 : GF K "_law_exchange" (topS 59))
    (f60 : GF K "_law_tables" (topS 60))
    (f61 : GF K "_law_come" (topS 61))
    (f62 : GF K "_law_tells" (topS 62))
    (f63 : GF K "_law_rows" (topS 63))
    (f64 : GF K "_law_fewest" (topS 64))
    (f52 : GF K "least_witness" (topS 52))
    (f53 : GF K "fewest_standings" (topS 53))
    (f65 : GF K "law" (topS 65))
    (cC : CtrF K CC) (cM : MachF K CM) (cP : PartF K CP) (cF : FindF K CF') (nn : NoF K) (kk : ConF K) :
    ∃ fd : FuncData, (∀ (s : Shared) (v : Value), BindsTo s fd ⟨[v], []⟩ [("_law_script", v)]) ∧ ∀ base : Heap, K.In base → base.Ns mainGlobals mg → FnG l.prog w K mg base CX0 12 fa fd ["_law_script"] (spLaw K) := by
  obtain ⟨fl, fdl, al, Fl⟩ := f65
  have e := hfa.symm.trans (PySem.W.mg_of X G al)
  cases e
  refine ⟨fdl, bt1 Fl fun _ _ _ _ _ _ _ => rfl, fun base _ _ => ?_⟩
  have Z : Gls mg := ⟨PySem.W.mg_none_of X G nn.n0, PySem.W.mg_none_of X G nn.n1, PySem.W.mg_none_of X G nn.n2, PySem.W.mg_none_of X G nn.n3, PySem.W.mg_none_of X G nn.n4, PySem.W.mg_none_of X G nn.n5, PySem.W.mg_none_of X G nn.n6, PySem.W.mg_none_of X G nn.n7, PySem.W.mg_none_of X G nn.n8, PySem.W.mg_none_of X G nn.n9, PySem.W.mg_none_of X G nn.n10, PySem.W.mg_none_of X G nn.n11, PySem.W.mg_none_of X G nn.n12, PySem.W.mg_none_of X G nn.n13, PySem.W.mg_none_of X G nn.n14⟩
  have C : Cns mg := ⟨let ⟨t, z⟩ := kk.c0; ⟨t, PySem.W.mg_of X G z⟩, let ⟨t, z⟩ := kk.c1; ⟨t, PySem.W.mg_of X G z⟩, let ⟨t, z⟩ := kk.c2; ⟨t, PySem.W.mg_of X G z⟩, let ⟨t, z⟩ := kk.c3; ⟨t, PySem.W.mg_of X G z⟩⟩
  have TM : MacC K CM := ⟨cM.cf.cls, cM.tb, cM.dd, cM.st⟩
  have TC : CtrC K CC := ⟨cC.cf.cls, cC.rd, cC.rs⟩
  have TP : PartC K CP := ⟨cP.cf.cls, cP.hm⟩
  have TF : FindC K CF' := ⟨cF.cf.cls, cF.ma, cF.fi, cF.co, cF.mo, cF.lo⟩
  have c12 : Cal l.prog w K mg base "is_integer" 1 ["value"] spInt := f12.cal X G (fun F => ok_is_integer F Z) (fun _ _ _ _ _ _ us hl => match us, hl with | [_], _ => rfl)
  have c13 : Cal l.prog w K mg base "is_number" 2 ["value"] spNum := f13.cal X G (fun F => ok_is_number F c12) (fun _ _ _ _ _ _ us hl => match us, hl with | [_], _ => rfl)
  have c14 : Cal l.prog w K mg base "is_below" 3 ["value", "most"] spBelow := f14.cal X G (fun F => ok_is_below F c13) (fun _ _ _ _ _ _ us hl => match us, hl with | [_, _], _ => rfl)
  have c15 : Cal l.prog w K mg base "is_within" 2 ["value", "least", "most"] spWithin := f15.cal X G (fun F => ok_is_within F c12) (fun _ _ _ _ _ _ us hl => match us, hl with | [_, _, _], _ => rfl)
  have c16 : Cal l.prog w K mg base "is_sequence" 1 ["value"] (spSeq K) := f16.cal X G (fun F => ok_is_sequence F Z) (fun _ _ _ _ _ _ us hl => match us, hl with | [_], _ => rfl)
  have c18 : Cal l.prog w K mg base "check_rounds" 3 ["value"] spRounds := f18.cal X G (fun F => ok_check_rounds F Z C c16 c15) (fun _ _ _ _ _ _ us hl => match us, hl with | [_], _ => rfl)
  have c19 : Cal l.prog w K mg base "check_rests" 3 ["value", "many"] (spRests K) := f19.cal X G (fun F => ok_check_rests F Z C c16 c15) (fun _ _ _ _ _ _ us hl => match us, hl with | [_, _], _ => rfl)
  obtain ⟨fi, fdi, e0, FD, MI, EM⟩ := cC.ini
  have mkC : MakD l.prog w K mg base CC e0 := by
    obtain ⟨ds, r, b⟩ := FD.binds1 (ps := ["self", "rounds", "rests"]) 2 0 (by simp) rfl (fun T kV doc pm an cdv ct us its h1 h2 => match us, its, h1, h2 with | [_, _], [_], _, _ => ⟨_, rfl, rfl⟩)
    exact ⟨⟨fi, fdi, ds, ok_cinit FD Z TC c18 c19, ⟨cC.cf.ms, MI.at_, MI.fn, cC.cf.kc⟩, PySem.W.mg_of X G cC.cf.at', b, r⟩, EM⟩
  have c21 : Cal l.prog w K mg base "need_fit" 1 ["machine", "counters"] (spFit CM CC) := f21.cal X G (fun F => ok_need_fit F Z TM TC) (fun _ _ _ _ _ _ us hl => match us, hl with | [_, _], _ => rfl)
  have c23 : Cal l.prog w K mg base "is_table" 4 ["value", "states"] (spTable K) := f23.cal X G (fun F => ok_is_table F Z c16 c14) (fun _ _ _ _ _ _ us hl => match us, hl with | [_, _], _ => rfl)
  have c24 : Cal l.prog w K mg base "check_tables" 5 ["value"] spTables := f24.cal X G (fun F => ok_check_tables F Z C c16 c23) (fun _ _ _ _ _ _ us hl => match us, hl with | [_], _ => rfl)
  have mkM : Mak l.prog w K mg base "Machine" CM 6 ["self", "tables"] (spMInit CM) := cM.ini.mak cM.cf X G (fun F => ok_minit F Z TM c24) (fun _ _ _ _ _ _ us hl => match us, hl with | [_, _], _ => rfl)
  have c26 : Cal l.prog w K mg base "need_state" 4 ["machine", "state"] (spNeedSt CM) := f26.cal X G (fun F => ok_need_state F TM c14) (fun _ _ _ _ _ _ us hl => match us, hl with | [_, _], _ => rfl)
  have c27 : Cal l.prog w K mg base "reached" 5 ["machine", "first"] (spReached CM) := f27.cal X G (fun F => ok_reached F Z TM c26) (fun _ _ _ _ _ _ us hl => match us, hl with | [_, _], _ => rfl)
  have c28 : Cal l.prog w K mg base "forgotten" 6 ["machine", "first"] (spForgotten CM) := f28.cal X G (fun F => ok_forgotten F Z TM c27) (fun _ _ _ _ _ _ us hl => match us, hl with | [_, _], _ => rfl)
  have c29 : Cal l.prog w K mg base "need_exchanges" 7 ["machine", "first"] (spExch CM) := f29.cal X G (fun F => ok_need_exchanges F c28) (fun _ _ _ _ _ _ us hl => match us, hl with | [_, _], _ => rfl)
  have c32 : Cal l.prog w K mg base "all_pairs" 1 ["deeds"] spPairs := f32.cal X G (fun F => ok_pairs F Z) (fun _ _ _ _ _ _ us hl => match us, hl with | [_], _ => rfl)
  have c33 : Cal l.prog w K mg base "turned" 1 ["move", "thing", "times"] spTurned := f33.cal X G (fun F => ok_turned F Z) (fun _ _ _ _ _ _ us hl => match us, hl with | [_, _, _], _ => rfl)
  have c34 : Cal l.prog w K mg base "told_unions" 2 ["moves", "pairs", "rounds"] spTold := f34.cal X G (fun F => ok_told F Z c33) (fun _ _ _ _ _ _ us hl => match us, hl with | [_, _, _], _ => rfl)
  have mkN : Mak l.prog w K mg base "Parting" CP 1 ["self", "things"] (spPInit thN CP) := cP.ini.mak cP.cf X G (fun F => ok_pinit F TP) (fun _ _ _ _ _ _ us hl => match us, hl with | [_, _], _ => rfl)
  have hN : Mth l.prog w K mg base CP "home" 1 ["self", "thing"] (spPHome thN CP) := cP.home.mth (fun F => ok_phome F TP) (fun _ _ _ _ _ _ us hl => match us, hl with | [_, _], _ => rfl)
  have uN : Mth l.prog w K mg base CP "unite" 2 ["self", "one", "other"] (spPUnite thN CP) := cP.unite.mth (fun F => ok_punite F TP hN) (fun _ _ _ _ _ _ us hl => match us, hl with | [_, _, _], _ => rfl)
  have lN : Mth l.prog w K mg base CP "all_lots" 2 ["self"] (spPLots thN CP) := cP.lots.mth (fun F => ok_plots F Z TP hN) (fun _ _ _ _ _ _ us hl => match us, hl with | [_], _ => rfl)
  have mkP : Mak l.prog w K mg base "Parting" CP 1 ["self", "things"] (spPInit thP CP) := cP.ini.mak cP.cf X G (fun F => ok_pinit F TP) (fun _ _ _ _ _ _ us hl => match us, hl with | [_, _], _ => rfl)
  have hP : Mth l.prog w K mg base CP "home" 1 ["self", "thing"] (spPHome thP CP) := cP.home.mth (fun F => ok_phome F TP) (fun _ _ _ _ _ _ us hl => match us, hl with | [_, _], _ => rfl)
  have uP : Mth l.prog w K mg base CP "unite" 2 ["self", "one", "other"] (spPUnite thP CP) := cP.unite.mth (fun F => ok_punite F TP hP) (fun _ _ _ _ _ _ us hl => match us, hl with | [_, _, _], _ => rfl)
  have lP : Mth l.prog w K mg base CP "all_lots" 2 ["self"] (spPLots thP CP) := cP.lots.mth (fun F => ok_plots F Z TP hP) (fun _ _ _ _ _ _ us hl => match us, hl with | [_], _ => rfl)
  have c35 : Cal l.prog w K mg base "lots_by_moves" 3 ["moves", "pairs", "rounds"] spLotsBy := f35.cal X G (fun F => ok_lotsby F Z TP c34 mkN uN lN) (fun _ _ _ _ _ _ us hl => match us, hl with | [_, _, _], _ => rfl)
  have c36 : Cal l.prog w K mg base "moves_of" 6 ["machine", "first"] (spMoves CM) := f36.cal X G (fun F => ok_moves F Z TM c27) (fun _ _ _ _ _ _ us hl => match us, hl with | [_, _], _ => rfl)
  have c37 : Cal l.prog w K mg base "settled" 8 ["machine", "first", "pairs", "rounds"] (spSettled CM) := f37.cal X G (fun F => ok_settled F c26 c29 c36 c35) (fun _ _ _ _ _ _ us hl => match us, hl with | [_, _, _, _], _ => rfl)
  have c39 : Cal l.prog w K mg base "need_kept" 5 ["machine", "first", "counters"] (spKept CM CC) := f39.cal X G (fun F => ok_kept F c26 c21) (fun _ _ _ _ _ _ us hl => match us, hl with | [_, _, _], _ => rfl)
  have c40 : Cal l.prog w K mg base "lots_of" 9 ["machine", "first", "counters"] (spLotsOf CM CC) := f40.cal X G (fun F => ok_lotsof F TM TC c39 c37 c32) (fun _ _ _ _ _ _ us hl => match us, hl with | [_, _, _], _ => rfl)
  have c42 : Cal l.prog w K mg base "are_parted" 1 ["pairs"] spParted := f42.cal X G (fun F => ok_parted F Z) (fun _ _ _ _ _ _ us hl => match us, hl with | [_], _ => rfl)
  have c44 : Cal l.prog w K mg base "begun_moves" 1 ["machine", "first", "tables"] (spBegun CM) := f44.cal X G (fun F => ok_begun F Z TM) (fun _ _ _ _ _ _ us hl => match us, hl with | [_, _, _], _ => rfl)
  have c45 : Cal l.prog w K mg base "known_end" 1 ["moves", "thing", "row"] spKend := f45.cal X G (fun F => ok_kend F Z) (fun _ _ _ _ _ _ us hl => match us, hl with | [_, _, _], _ => rfl)
  have c46 : Cal l.prog w K mg base "known_unions" 2 ["moves", "things", "deeds", "rounds"] spKun := f46.cal X G (fun F => ok_kun F Z c32 c45) (fun _ _ _ _ _ _ us hl => match us, hl with | [_, _, _, _], _ => rfl)
  have c47 : Cal l.prog w K mg base "can_tell" 3 ["machine", "first", "counters", "tables"] (spTell CM CC) := f47.cal X G (fun F => ok_tell F Z TM TC TP c44 c46 c42 mkP uP lP) (fun _ _ _ _ _ _ us hl => match us, hl with | [_, _, _, _], _ => rfl)
  have c48 : Cal l.prog w K mg base "open_spot" 1 ["tables", "many"] spSpot := f48.cal X G (fun F => ok_spot F Z) (fun _ _ _ _ _ _ us hl => match us, hl with | [_, _], _ => rfl)
  have c49 : Cal l.prog w K mg base "with_step" 1 ["tables", "spot", "standing"] spStep := f49.cal X G (fun F => ok_step F) (fun _ _ _ _ _ _ us hl => match us, hl with | [_, _, _], _ => rfl)
  have c51 : Cal l.prog w K mg base "own_tables" 1 ["machine", "first"] (spOwn CM) := f51.cal X G (fun F => ok_own F Z TM) (fun _ _ _ _ _ _ us hl => match us, hl with | [_, _], _ => rfl)
  have mkF : Mak l.prog w K mg base "Finder" CF' 1 ["self", "machine", "first", "counters", "most"] (spFInit CF') := cF.ini.mak cF.cf X G (fun F => ok_finit F TF) (fun _ _ _ _ _ _ us hl => match us, hl with | [_, _, _, _, _], _ => rfl)
  have mOn : Mth l.prog w K mg base CF' "begun_on" 4 ["self", "tables", "many", "size"] (spFOn CF' CM CC) := cF.on.mth (fun F => ok_fon F Z TF c48 c47 c49) (fun _ _ _ _ _ _ us hl => match us, hl with | [_, _, _, _], _ => rfl)
  have mFit : Mth l.prog w K mg base CF' "fitting" 5 ["self", "size"] (spFit2 CF' CM CC) := cF.fit.mth (fun F => ok_fit2 F Z TF TM c48 mOn) (fun _ _ _ _ _ _ us hl => match us, hl with | [_, _], _ => rfl)
  have c52 : CalM l.prog w K mg base "least_witness" 10 (spLeast CM CC) := by
    obtain ⟨f, fd, a, F⟩ := f52
    exact ⟨f, fd, ok_least F Z TF c40 c27 c51 mkF mFit, PySem.W.mg_of X G a, F.kp, kbn_most F fun _ _ _ _ _ _ _ _ _ _ => rfl⟩
  have c53 : CalM l.prog w K mg base "fewest_standings" 11 (spFew CM CC) := by
    obtain ⟨f, fd, a, F⟩ := f53
    exact ⟨f, fd, ok_few F Z c52, PySem.W.mg_of X G a, F.kp, kbn_most F fun _ _ _ _ _ _ _ _ _ _ => rfl⟩
  have c55 : Cal l.prog w K mg base "_law_box" 1 ["_law_script", "_law_k"] (spBox K) := f55.cal X G (fun F => ok_box F Z) (fun _ _ _ _ _ _ us hl => match us, hl with | [_, _], _ => rfl)
  have c56 : Cal l.prog w K mg base "_law_take" 1 ["_law_box_here", "_law_many"] spTake := f56.cal X G (fun F => ok_take F Z) (fun _ _ _ _ _ _ us hl => match us, hl with | [_, _], _ => rfl)
  have c57 : Cal l.prog w K mg base "_law_pick" 2 ["_law_box_here", "_law_some"] (spPick K) := f57.cal X G (fun F => ok_pick F Z c56) (fun _ _ _ _ _ _ us hl => match us, hl with | [_, _], _ => rfl)
  have c58 : Cal l.prog w K mg base "_law_mixed" 2 ["_law_box_here", "_law_many"] spMixed := f58.cal X G (fun F => ok_mixed F Z c56) (fun _ _ _ _ _ _ us hl => match us, hl with | [_, _], _ => rfl)
  have c59 : Cal l.prog w K mg base "_law_exchange" 3 ["_law_box_here", "_law_many"] spMixed := f59.cal X G (fun F => ok_exchg F Z c56 c58) (fun _ _ _ _ _ _ us hl => match us, hl with | [_, _], _ => rfl)
  have c60 : Cal l.prog w K mg base "_law_tables" 4 ["_law_box_here", "_law_most", "_law_deeds"] spTabl := f60.cal X G (fun F => ok_tabl F Z c56 c58 c59) (fun _ _ _ _ _ _ us hl => match us, hl with | [_, _, _], _ => rfl)
  have c61 : Cal l.prog w K mg base "_law_come" 1 ["_law_tables_here", "_law_first"] spCome := f61.cal X G (fun F => ok_come F Z) (fun _ _ _ _ _ _ us hl => match us, hl with | [_, _], _ => rfl)
  have c62 : Cal l.prog w K mg base "_law_tells" 1 ["_law_tables_here", "_law_first", "_law_rounds", "_law_witness", "_law_start"] spTells := f62.cal X G (fun F => ok_tells F Z) (fun _ _ _ _ _ _ us hl => match us, hl with | [_, _, _, _, _], _ => rfl)
  have c63 : Cal l.prog w K mg base "_law_rows" 1 ["_law_size"] spRowsL := f63.cal X G (fun F => ok_rowsl F Z) (fun _ _ _ _ _ _ us hl => match us, hl with | [_], _ => rfl)
  have c64 : Cal l.prog w K mg base "_law_fewest" 2 ["_law_tables_here", "_law_first", "_law_rounds"] spFewL := f64.cal X G (fun F => ok_fewl F Z c61 c63 c62) (fun _ _ _ _ _ _ us hl => match us, hl with | [_, _, _], _ => rfl)
  exact ok_law Fl Z c55 c57 c60 c61 c64 mkM mkC c53
theorem walk {l : PySem.W.OpenLaw} {d : DefRec} {q : Program} {loose : List Str} {XP : (Str → Option Value) → Heap → Prop} {YP : World → Heap → Prop} {K : Params → PySem.W.Frag} (most : l.most = some 63) (plain : d.params.defaults = []) (constants : ∀ w h, YP w h → (K w.params).In h)
    (F : ∀ w mg fa h, (K w.params).In h → h.Ns mainGlobals mg → mg d.name = some (.ref fa) → ∃ fd : FuncData, (∀ s u, BindsTo s fd ⟨[u], []⟩ [("_law_script", u)]) ∧ ∀ base : Heap, (K w.params).In base → base.Ns mainGlobals mg → FnG l.prog w (K w.params) mg base CX0 12 fa fd ["_law_script"] (spLaw (K w.params))) :
    PySem.W.WalkO q loose XP YP l.row.toRowW d [] fun f vs => PySem.call f vs :=
  walk_ofG (n := 63) (k := 12) (x := "_law_script") (CX := fun _ => CX0) (sp := fun w => spLaw (K w.params)) most (by decide) plain ⟨rfl, by decide, by decide⟩ constants F (fun _ _ a ns _ _ hS => ⟨a, ns, rfl, hS, fun _ => rfl⟩) fun _ _ _ _ _ z => z
end OWP

open PySem PySem.W PyProof.Rows
set_option maxRecDepth 100000 in
set_option maxHeartbeats 0 in
theorem PySem.Challenge.cw_onewitness_k20_whole_finer_counters_neve_holds : PySem.Challenge.rw_onewitness_k20_whole_finer_counters_neve.Holds := by
  w_on
  o_law
  k_head
  (case hw => w_witness2)
  k_fill
  refine OWP.walk (l := PySem.Challenge.rw_onewitness_k20_whole_finer_counters_neve) rfl rfl (fun w h Y => PySem.W.kIn_of Y) ?F
  case F =>
    intro w mg fa h KX G hmg
    refine' OWP.all_mk KX G hmg ?f12 ?f13 ?f14 ?f15 ?f16 ?f18 ?f19 ?f21 ?f23 ?f24 ?f26 ?f27 ?f28 ?f29 ?f32 ?f33 ?f34 ?f35 ?f36 ?f37 ?f39 ?f40 ?f42 ?f44 ?f45 ?f46 ?f47 ?f48 ?f49 ?f51 ?f55 ?f56 ?f57 ?f58 ?f59 ?f60 ?f61 ?f62 ?f63 ?f64 ?f52 ?f53 ?f65 ?cC ?cM ?cP ?cF ?nn ?kk
    (case f12 => (refine' OWP.gf ?a ?l ?c ?k; (case a => k_is); (case l => k_is); (case c => k_is); (case k => k_is)))
    (case f13 => (refine' OWP.gf ?a ?l ?c ?k; (case a => k_is); (case l => k_is); (case c => k_is); (case k => k_is)))
    (case f14 => (refine' OWP.gf ?a ?l ?c ?k; (case a => k_is); (case l => k_is); (case c => k_is); (case k => k_is)))
    (case f15 => (refine' OWP.gf ?a ?l ?c ?k; (case a => k_is); (case l => k_is); (case c => k_is); (case k => k_is)))
    (case f16 => (refine' OWP.gf ?a ?l ?c ?k; (case a => k_is); (case l => k_is); (case c => k_is); (case k => k_is)))
    (case f18 => (refine' OWP.gf ?a ?l ?c ?k; (case a => k_is); (case l => k_is); (case c => k_is); (case k => k_is)))
    (case f19 => (refine' OWP.gf ?a ?l ?c ?k; (case a => k_is); (case l => k_is); (case c => k_is); (case k => k_is)))
    (case f21 => (refine' OWP.gf ?a ?l ?c ?k; (case a => k_is); (case l => k_is); (case c => k_is); (case k => k_is)))
    (case f23 => (refine' OWP.gf ?a ?l ?c ?k; (case a => k_is); (case l => k_is); (case c => k_is); (case k => k_is)))
    (case f24 => (refine' OWP.gf ?a ?l ?c ?k; (case a => k_is); (case l => k_is); (case c => k_is); (case k => k_is)))
    (case f26 => (refine' OWP.gf ?a ?l ?c ?k; (case a => k_is); (case l => k_is); (case c => k_is); (case k => k_is)))
    (case f27 => (refine' OWP.gf ?a ?l ?c ?k; (case a => k_is); (case l => k_is); (case c => k_is); (case k => k_is)))
    (case f28 => (refine' OWP.gf ?a ?l ?c ?k; (case a => k_is); (case l => k_is); (case c => k_is); (case k => k_is)))
    (case f29 => (refine' OWP.gf ?a ?l ?c ?k; (case a => k_is); (case l => k_is); (case c => k_is); (case k => k_is)))
    (case f32 => (refine' OWP.gf ?a ?l ?c ?k; (case a => k_is); (case l => k_is); (case c => k_is); (case k => k_is)))
    (case f33 => (refine' OWP.gf ?a ?l ?c ?k; (case a => k_is); (case l => k_is); (case c => k_is); (case k => k_is)))
    (case f34 => (refine' OWP.gf ?a ?l ?c ?k; (case a => k_is); (case l => k_is); (case c => k_is); (case k => k_is)))
    (case f35 => (refine' OWP.gf ?a ?l ?c ?k; (case a => k_is); (case l => k_is); (case c => k_is); (case k => k_is)))
    (case f36 => (refine' OWP.gf ?a ?l ?c ?k; (case a => k_is); (case l => k_is); (case c => k_is); (case k => k_is)))
    (case f37 => (refine' OWP.gf ?a ?l ?c ?k; (case a => k_is); (case l => k_is); (case c => k_is); (case k => k_is)))
    (case f39 => (refine' OWP.gf ?a ?l ?c ?k; (case a => k_is); (case l => k_is); (case c => k_is); (case k => k_is)))
    (case f40 => (refine' OWP.gf ?a ?l ?c ?k; (case a => k_is); (case l => k_is); (case c => k_is); (case k => k_is)))
    (case f42 => (refine' OWP.gf ?a ?l ?c ?k; (case a => k_is); (case l => k_is); (case c => k_is); (case k => k_is)))
    (case f44 => (refine' OWP.gf ?a ?l ?c ?k; (case a => k_is); (case l => k_is); (case c => k_is); (case k => k_is)))
    (case f45 => (refine' OWP.gf ?a ?l ?c ?k; (case a => k_is); (case l => k_is); (case c => k_is); (case k => k_is)))
    (case f46 => (refine' OWP.gf ?a ?l ?c ?k; (case a => k_is); (case l => k_is); (case c => k_is); (case k => k_is)))
    (case f47 => (refine' OWP.gf ?a ?l ?c ?k; (case a => k_is); (case l => k_is); (case c => k_is); (case k => k_is)))
    (case f48 => (refine' OWP.gf ?a ?l ?c ?k; (case a => k_is); (case l => k_is); (case c => k_is); (case k => k_is)))
    (case f49 => (refine' OWP.gf ?a ?l ?c ?k; (case a => k_is); (case l => k_is); (case c => k_is); (case k => k_is)))
    (case f51 => (refine' OWP.gf ?a ?l ?c ?k; (case a => k_is); (case l => k_is); (case c => k_is); (case k => k_is)))
    (case f55 => (refine' OWP.gf ?a ?l ?c ?k; (case a => k_is); (case l => k_is); (case c => k_is); (case k => k_is)))
    (case f56 => (refine' OWP.gf ?a ?l ?c ?k; (case a => k_is); (case l => k_is); (case c => k_is); (case k => k_is)))
    (case f57 => (refine' OWP.gf ?a ?l ?c ?k; (case a => k_is); (case l => k_is); (case c => k_is); (case k => k_is)))
    (case f58 => (refine' OWP.gf ?a ?l ?c ?k; (case a => k_is); (case l => k_is); (case c => k_is); (case k => k_is)))
    (case f59 => (refine' OWP.gf ?a ?l ?c ?k; (case a => k_is); (case l => k_is); (case c => k_is); (case k => k_is)))
    (case f60 => (refine' OWP.gf ?a ?l ?c ?k; (case a => k_is); (case l => k_is); (case c => k_is); (case k => k_is)))
    (case f61 => (refine' OWP.gf ?a ?l ?c ?k; (case a => k_is); (case l => k_is); (case c => k_is); (case k => k_is)))
    (case f62 => (refine' OWP.gf ?a ?l ?c ?k; (case a => k_is); (case l => k_is); (case c => k_is); (case k => k_is)))
    (case f63 => (refine' OWP.gf ?a ?l ?c ?k; (case a => k_is); (case l => k_is); (case c => k_is); (case k => k_is)))
    (case f64 => (refine' OWP.gf ?a ?l ?c ?k; (case a => k_is); (case l => k_is); (case c => k_is); (case k => k_is)))
    (case f52 => (refine' OWP.gf ?a ?l ?c ?k; (case a => k_is); (case l => k_is); (case c => k_is); (case k => k_is)))
    (case f53 => (refine' OWP.gf ?a ?l ?c ?k; (case a => k_is); (case l => k_is); (case c => k_is); (case k => k_is)))
    (case f65 => (refine' OWP.gf ?a ?l ?c ?k; (case a => k_is); (case l => k_is); (case c => k_is); (case k => k_is)))
    (case cC => (refine' ⟨?cf, ?rd, ?rs, ?ini⟩; (case cf => (refine' ⟨?at', ⟨?pg, ?hd, ?po, ?sa⟩, ?ms, ?kc⟩; (case at' => k_is); (case pg => k_is); (case hd => k_is); (case po => k_is); (case sa => k_is); (case ms => k_is); (case kc => k_is))); (case rd => k_is); (case rs => k_is); (case ini => (refine' OWP.ctr_ini ?a ?i ?l ?c ?k ?zT ?zE; (case a => k_is); (case i => k_is); (case l => k_is); (case c => k_is); (case k => k_is); (case zT => k_is); (case zE => k_is)))))
    (case cM => (refine' ⟨?cf, ?tb, ?dd, ?st, ?ini⟩; (case cf => (refine' ⟨?at', ⟨?pg, ?hd, ?po, ?sa⟩, ?ms, ?kc⟩; (case at' => k_is); (case pg => k_is); (case hd => k_is); (case po => k_is); (case sa => k_is); (case ms => k_is); (case kc => k_is))); (case tb => k_is); (case dd => k_is); (case st => k_is); (case ini => (refine' OWP.mf ?a ?i ?l ?c ?k; (case a => k_is); (case i => k_is); (case l => k_is); (case c => k_is); (case k => k_is)))))
    (case cP => (refine' ⟨?cf, ?hm, ?ini, ?home, ?unite, ?lots⟩; (case cf => (refine' ⟨?at', ⟨?pg, ?hd, ?po, ?sa⟩, ?ms, ?kc⟩; (case at' => k_is); (case pg => k_is); (case hd => k_is); (case po => k_is); (case sa => k_is); (case ms => k_is); (case kc => k_is))); (case hm => k_is); (case ini => (refine' OWP.mf ?a ?i ?l ?c ?k; (case a => k_is); (case i => k_is); (case l => k_is); (case c => k_is); (case k => k_is))); (case home => (refine' OWP.mf ?a ?i ?l ?c ?k; (case a => k_is); (case i => k_is); (case l => k_is); (case c => k_is); (case k => k_is))); (case unite => (refine' OWP.mf ?a ?i ?l ?c ?k; (case a => k_is); (case i => k_is); (case l => k_is); (case c => k_is); (case k => k_is))); (case lots => (refine' OWP.mf ?a ?i ?l ?c ?k; (case a => k_is); (case i => k_is); (case l => k_is); (case c => k_is); (case k => k_is)))))
    (case cF => (refine' ⟨?cf, ?ma, ?fi, ?co, ?mo, ?lo, ?ini, ?on, ?fit⟩; (case cf => (refine' ⟨?at', ⟨?pg, ?hd, ?po, ?sa⟩, ?ms, ?kc⟩; (case at' => k_is); (case pg => k_is); (case hd => k_is); (case po => k_is); (case sa => k_is); (case ms => k_is); (case kc => k_is))); (case ma => k_is); (case fi => k_is); (case co => k_is); (case mo => k_is); (case lo => k_is); (case ini => (refine' OWP.mf ?a ?i ?l ?c ?k; (case a => k_is); (case i => k_is); (case l => k_is); (case c => k_is); (case k => k_is))); (case on => (refine' OWP.mf ?a ?i ?l ?c ?k; (case a => k_is); (case i => k_is); (case l => k_is); (case c => k_is); (case k => k_is))); (case fit => (refine' OWP.mf ?a ?i ?l ?c ?k; (case a => k_is); (case i => k_is); (case l => k_is); (case c => k_is); (case k => k_is)))))
    (case nn => (refine' ⟨?n0, ?n1, ?n2, ?n3, ?n4, ?n5, ?n6, ?n7, ?n8, ?n9, ?n10, ?n11, ?n12, ?n13, ?n14⟩; (case n0 => k_is); (case n1 => k_is); (case n2 => k_is); (case n3 => k_is); (case n4 => k_is); (case n5 => k_is); (case n6 => k_is); (case n7 => k_is); (case n8 => k_is); (case n9 => k_is); (case n10 => k_is); (case n11 => k_is); (case n12 => k_is); (case n13 => k_is); (case n14 => k_is)))
    (case kk => exact ⟨⟨_, by k_is⟩, ⟨_, by k_is⟩, ⟨_, by k_is⟩, ⟨_, by k_is⟩⟩)
