import PyProof.Rows.All
import Wide.All
import OpenK.AllK
import Wide.FinOn
import HandS.ForMost
import HandS.Conv
import HandS.Wide
import HandS.IsInst
import HandS.Defaults
import HandS.DictComp
import KE.KDictKeyed
import KE.KDictWalk
import KE.KDictDisplayH
import KE.SortData
import KE.DataMinMax
import HandS.NoneIn
import HandS.SortKw
import KE.KStateDown
import HandS.Base
import HandS.Call
import HandS.Ends
import HandS.More
import HandS.Words
import HandS.WordsExc
import HandS.Head0
import HandS.Head1
import HandS.Head2
import HandS.HeadEnd
import HandS.HeadHook1
import HandS.HeadHook2
import KE.BitLaws
import PySem.Challenge.RW_figurehold_k03_whole_ring
set_option linter.all false
/-! K03: monomials, polynomials, what the law asks of them; plain Lean. -/
namespace K03
open PySem

/-! ### names -/
def nlt (a b : Str) : Prop := a.cps.toList < b.cps.toList
instance (a b : Str) : Decidable (nlt a b) := inferInstanceAs (Decidable (a.cps.toList < b.cps.toList))
theorem str_ext {a b : Str} (h : a.cps.toList = b.cps.toList) : a = b := by
  cases a; cases b
  have h' := Array.toList_inj.mp h
  simp only at h'
  rw [h']
theorem nlt_irr (a : Str) : ¬ nlt a a := List.lt_irrefl _
theorem nlt_trans {a b c : Str} (h : nlt a b) (h' : nlt b c) : nlt a c := List.lt_trans h h'
theorem nlt_tri (a b : Str) : nlt a b ∨ a = b ∨ nlt b a := by
  rcases Std.lt_trichotomy a.cps.toList b.cps.toList with h | h | h
  · exact .inl h
  · exact .inr (.inl (str_ext h))
  · exact .inr (.inr h)
theorem nlt_asymm {a b : Str} (h : nlt a b) : ¬ nlt b a := fun h' => nlt_irr _ (nlt_trans h h')

/-! ### strictly rising lists -/
theorem rising_ext {α : Type} {lt : α → α → Prop} (irr : ∀ a, ¬ lt a a) (tr : ∀ a b c, lt a b → lt b c → lt a c) : ∀ {l m : List α}, l.Pairwise lt → m.Pairwise lt → (∀ x, x ∈ l ↔ x ∈ m) → l = m
  | [], [], _, _, _ => rfl
  | [], b :: m, _, _, h => absurd ((h b).mpr (.head _)) (by simp)
  | a :: l, [], _, _, h => absurd ((h a).mp (.head _)) (by simp)
  | a :: l, b :: m, hl, hm, h => by
    obtain ⟨la, hl'⟩ := List.pairwise_cons.mp hl
    obtain ⟨mb, hm'⟩ := List.pairwise_cons.mp hm
    have e : a = b := by
      rcases List.mem_cons.mp ((h a).mp (.head _)) with e | e
      · exact e
      · rcases List.mem_cons.mp ((h b).mpr (.head _)) with e' | e'
        · exact e'.symm
        · exact absurd (tr _ _ _ (la b e') (mb a e)) (irr _)
    subst e
    congr 1
    refine rising_ext irr tr hl' hm' fun x => ⟨fun hx => ?_, fun hx => ?_⟩
    · rcases List.mem_cons.mp ((h x).mp (.tail _ hx)) with e | e
      · subst e; exact absurd (la x hx) (irr _)
      · exact e
    · rcases List.mem_cons.mp ((h x).mpr (.tail _ hx)) with e | e
      · subst e; exact absurd (mb x hx) (irr _)
      · exact e
theorem rising_nodup {α : Type} {lt : α → α → Prop} (irr : ∀ a, ¬ lt a a) {l : List α} (h : l.Pairwise lt) : l.Nodup :=
  List.Pairwise.imp (S := fun a b => a ≠ b) (fun {a b} (h : lt a b) (e : a = b) => irr a (by rw [← e] at h; exact h)) h

/-! ### monomials -/
abbrev Mono := List (Str × Int)
def ex : Mono → Str → Int
  | [], _ => 0
  | p :: r, n => if p.1 = n then p.2 else ex r n
structure CanonM (m : Mono) : Prop where
  rise : m.Pairwise fun p q => nlt p.1 q.1
  pos : ∀ p ∈ m, 1 ≤ p.2
theorem CanonM.nil : CanonM [] := ⟨.nil, fun _ h => by simp at h⟩
theorem CanonM.tail {p : Str × Int} {m : Mono} (h : CanonM (p :: m)) : CanonM m := ⟨(List.pairwise_cons.mp h.rise).2, fun q hq => h.pos q (.tail _ hq)⟩
theorem CanonM.head {p : Str × Int} {m : Mono} (h : CanonM (p :: m)) : ∀ q ∈ m, nlt p.1 q.1 := (List.pairwise_cons.mp h.rise).1
theorem CanonM.one {n : Str} {k : Int} (h : 1 ≤ k) : CanonM [(n, k)] := ⟨List.pairwise_cons.mpr ⟨fun _ h => by simp at h, .nil⟩, fun p hp => by simp at hp; subst hp; exact h⟩
theorem ex_none : ∀ {m : Mono} {n : Str}, (∀ p ∈ m, p.1 ≠ n) → ex m n = 0
  | [], _, _ => rfl
  | p :: r, n, h => by
    unfold ex
    rw [if_neg (h p (.head _))]
    exact ex_none fun q hq => h q (.tail _ hq)
theorem ex_of_mem : ∀ {m : Mono} {p : Str × Int}, CanonM m → p ∈ m → ex m p.1 = p.2
  | q :: r, p, c, h => by
    unfold ex
    rcases List.mem_cons.mp h with e | e
    · subst e; exact if_pos rfl
    · rw [if_neg fun z => nlt_irr _ (by have := c.head p e; rw [z] at this; exact this)]
      exact ex_of_mem c.tail e
theorem ex_cons_lt {p : Str × Int} {m : Mono} {n : Str} (c : CanonM (p :: m)) (h : nlt n p.1) : ex (p :: m) n = 0 := by
  refine ex_none fun q hq e => ?_
  rcases List.mem_cons.mp hq with z | z
  · subst z; rw [e] at h; exact nlt_irr _ h
  · have := nlt_trans h (c.head q z); rw [e] at this; exact nlt_irr _ this
theorem ex_tail_self {p : Str × Int} {m : Mono} (c : CanonM (p :: m)) : ex m p.1 = 0 :=
  ex_none fun q hq e => nlt_irr _ (by have := c.head q hq; rw [e] at this; exact this)
theorem ex_nonneg : ∀ {m : Mono} (n : Str), (∀ p ∈ m, 1 ≤ p.2) → 0 ≤ ex m n
  | [], _, _ => Int.le_refl _
  | p :: r, n, h => by
    unfold ex
    split
    · have := h p (.head _); omega
    · exact ex_nonneg n fun q hq => h q (.tail _ hq)
theorem mem_of_ex : ∀ {m : Mono} {n : Str}, ex m n ≠ 0 → (n, ex m n) ∈ m
  | [], _, h => absurd rfl h
  | p :: r, n, h => by
    unfold ex at h ⊢
    by_cases e : p.1 = n
    · rw [if_pos e, ← e]; exact .head _
    · rw [if_neg e] at h ⊢; exact .tail _ (mem_of_ex h)
theorem canonM_ext : ∀ {a b : Mono}, CanonM a → CanonM b → (∀ n, ex a n = ex b n) → a = b
  | [], [], _, _, _ => rfl
  | [], p :: r, _, cb, h => by
    have e := h p.1
    have := cb.pos p (.head _)
    unfold ex at e
    rw [if_pos rfl] at e
    omega
  | p :: r, [], ca, _, h => by
    have e := h p.1
    have := ca.pos p (.head _)
    unfold ex at e
    rw [if_pos rfl] at e
    omega
  | p :: r, q :: s, ca, cb, h => by
    have pp := ca.pos p (.head _)
    have pq := cb.pos q (.head _)
    have self1 : ex (p :: r) p.1 = p.2 := by unfold ex; exact if_pos rfl
    have self2 : ex (q :: s) q.1 = q.2 := by unfold ex; exact if_pos rfl
    rcases nlt_tri p.1 q.1 with l | l | l
    · have e := h p.1
      rw [self1, ex_cons_lt cb l] at e
      omega
    · have e := h p.1
      rw [self1, l, self2] at e
      have hpq : p = q := Prod.ext l e
      subst hpq
      congr 1
      refine canonM_ext ca.tail cb.tail fun n => ?_
      by_cases z : p.1 = n
      · rw [← z, ex_tail_self ca, ex_tail_self cb]
      · have e := h n
        unfold ex at e
        rw [if_neg z, if_neg z] at e
        exact e
    · have e := h q.1
      rw [self2, ex_cons_lt ca l] at e
      omega

def ins (n : Str) (k : Int) : Mono → Mono
  | [] => [(n, k)]
  | p :: r => if p.1 = n then (p.1, p.2 + k) :: r else if nlt n p.1 then (n, k) :: p :: r else p :: ins n k r
theorem ins_mem {n : Str} {k : Int} : ∀ {m : Mono} {q : Str × Int}, q ∈ ins n k m → q.1 = n ∨ ∃ p ∈ m, p.1 = q.1
  | [], q, h => by simp [ins] at h; subst h; exact .inl rfl
  | p :: r, q, h => by
    unfold ins at h
    split at h
    · rename_i e
      rcases List.mem_cons.mp h with z | z
      · subst z; exact .inl e
      · exact .inr ⟨q, .tail _ z, rfl⟩
    · split at h
      · rcases List.mem_cons.mp h with z | z
        · subst z; exact .inl rfl
        · exact .inr ⟨q, z, rfl⟩
      · rcases List.mem_cons.mp h with z | z
        · subst z; exact .inr ⟨q, .head _, rfl⟩
        · rcases ins_mem z with y | ⟨p', h1, h2⟩
          · exact .inl y
          · exact .inr ⟨p', .tail _ h1, h2⟩
theorem canon_ins {n : Str} {k : Int} (hk : 1 ≤ k) : ∀ {m : Mono}, CanonM m → CanonM (ins n k m)
  | [], _ => CanonM.one hk
  | p :: r, c => by
    unfold ins
    have hp := c.pos p (.head _)
    split
    · rename_i e
      refine ⟨List.pairwise_cons.mpr ⟨c.head, c.tail.rise⟩, fun q hq => ?_⟩
      rcases List.mem_cons.mp hq with z | z
      · subst z; show 1 ≤ p.2 + k; omega
      · exact c.pos q (.tail _ z)
    · rename_i ne
      split
      · rename_i l
        refine ⟨List.pairwise_cons.mpr ⟨fun q hq => ?_, c.rise⟩, fun q hq => ?_⟩
        · rcases List.mem_cons.mp hq with z | z
          · subst z; exact l
          · exact nlt_trans l (c.head q z)
        · rcases List.mem_cons.mp hq with z | z
          · subst z; exact hk
          · exact c.pos q z
      · rename_i nl
        have l : nlt p.1 n := by
          rcases nlt_tri p.1 n with z | z | z
          · exact z
          · exact absurd z ne
          · exact absurd z nl
        have ih := canon_ins (n := n) hk c.tail
        refine ⟨List.pairwise_cons.mpr ⟨fun q hq => ?_, ih.rise⟩, fun q hq => ?_⟩
        · rcases ins_mem hq with z | ⟨p', h1, h2⟩
          · rw [z]; exact l
          · rw [← h2]; exact c.head p' h1
        · rcases List.mem_cons.mp hq with z | z
          · subst z; exact hp
          · exact ih.pos q z
theorem ex_ins {n : Str} {k : Int} (x : Str) : ∀ {m : Mono}, CanonM m → ex (ins n k m) x = ex m x + if n = x then k else 0
  | [], _ => by
    show (if n = x then k else 0) = 0 + _
    omega
  | p :: r, c => by
    unfold ins
    split
    · rename_i e
      unfold ex
      show (if p.1 = x then p.2 + k else ex r x) = _
      by_cases z : p.1 = x
      · rw [if_pos z, if_pos z, if_pos (e.symm.trans z)]
      · rw [if_neg z, if_neg z, if_neg fun y => z (e.trans y)]; omega
    · rename_i ne
      split
      · rename_i l
        show (if n = x then k else ex (p :: r) x) = _
        by_cases z : n = x
        · rw [if_pos z, if_pos z]
          subst z
          rw [ex_cons_lt c l]; omega
        · rw [if_neg z, if_neg z]; omega
      · have ih := ex_ins (n := n) (k := k) x c.tail
        show (if p.1 = x then p.2 else ex (ins n k r) x) = (if p.1 = x then p.2 else ex r x) + _
        by_cases z : p.1 = x
        · rw [if_pos z, if_pos z, if_neg fun y => ne (z.trans y.symm)]; omega
        · rw [if_neg z, if_neg z, ih]
def mmul (a b : Mono) : Mono := b.foldl (fun acc p => ins p.1 p.2 acc) a
theorem canon_mmul : ∀ {b a : Mono}, CanonM a → (∀ p ∈ b, 1 ≤ p.2) → CanonM (mmul a b)
  | [], a, c, _ => c
  | p :: r, a, c, h => canon_mmul (b := r) (a := ins p.1 p.2 a) (canon_ins (h p (.head _)) c) fun q hq => h q (.tail _ hq)
theorem CanonM.mul {a b : Mono} (ca : CanonM a) (cb : CanonM b) : CanonM (mmul a b) := canon_mmul ca cb.pos
theorem ex_mmul (x : Str) : ∀ {b a : Mono}, CanonM a → CanonM b → ex (mmul a b) x = ex a x + ex b x
  | [], a, _, _ => by show ex a x = ex a x + 0; omega
  | p :: r, a, ca, cb => by
    have h := ex_mmul x (b := r) (a := ins p.1 p.2 a) (canon_ins (cb.pos p (.head _)) ca) cb.tail
    show ex (mmul (ins p.1 p.2 a) r) x = ex a x + (if p.1 = x then p.2 else ex r x)
    rw [h, ex_ins x ca]
    by_cases z : p.1 = x
    · rw [if_pos z, if_pos z, ← z, ex_tail_self cb]; omega
    · rw [if_neg z, if_neg z]; omega
theorem mmul_comm {a b : Mono} (ca : CanonM a) (cb : CanonM b) : mmul a b = mmul b a :=
  canonM_ext (ca.mul cb) (cb.mul ca) fun n => by rw [ex_mmul n ca cb, ex_mmul n cb ca]; omega
theorem mmul_assoc {a b c : Mono} (ca : CanonM a) (cb : CanonM b) (cc : CanonM c) : mmul (mmul a b) c = mmul a (mmul b c) :=
  canonM_ext ((ca.mul cb).mul cc) (ca.mul (cb.mul cc)) fun n => by rw [ex_mmul n (ca.mul cb) cc, ex_mmul n ca cb, ex_mmul n ca (cb.mul cc), ex_mmul n cb cc]; omega
theorem mmul_nil (a : Mono) : mmul a [] = a := rfl
theorem nil_mmul {a : Mono} (ca : CanonM a) : mmul [] a = a := by rw [mmul_comm CanonM.nil ca]; rfl

/-! ### polynomials: lists of terms, and what they are -/
abbrev Poly := List (Mono × Int)
def ev : Poly → (Mono → Int) → Int
  | [], _ => 0
  | t :: r, φ => t.2 * φ t.1 + ev r φ
def MP (p : Poly) : Prop := ∀ t ∈ p, CanonM t.1
theorem MP.tail {t : Mono × Int} {p : Poly} (h : MP (t :: p)) : MP p := fun s hs => h s (.tail _ hs)
theorem ev_app (φ : Mono → Int) : ∀ p q : Poly, ev (p ++ q) φ = ev p φ + ev q φ
  | [], q => by show ev q φ = 0 + ev q φ; omega
  | t :: r, q => by
    show t.2 * φ t.1 + ev (r ++ q) φ = t.2 * φ t.1 + ev r φ + ev q φ
    rw [ev_app φ r q]; omega
theorem ev_congr {φ ψ : Mono → Int} : ∀ {p : Poly}, (∀ t ∈ p, φ t.1 = ψ t.1) → ev p φ = ev p ψ
  | [], _ => rfl
  | t :: r, h => by
    show t.2 * φ t.1 + ev r φ = t.2 * ψ t.1 + ev r ψ
    rw [h t (.head _), ev_congr fun s hs => h s (.tail _ hs)]
theorem ev_zero : ∀ p : Poly, ev p (fun _ => 0) = 0
  | [] => rfl
  | t :: r => by show t.2 * 0 + ev r (fun _ => 0) = 0; rw [ev_zero r]; omega
theorem ev_add (φ ψ : Mono → Int) : ∀ p : Poly, ev p (fun m => φ m + ψ m) = ev p φ + ev p ψ
  | [] => rfl
  | t :: r => by
    show t.2 * (φ t.1 + ψ t.1) + ev r _ = t.2 * φ t.1 + ev r φ + (t.2 * ψ t.1 + ev r ψ)
    rw [ev_add φ ψ r, Int.mul_add]; omega
theorem ev_mulc (c : Int) (φ : Mono → Int) : ∀ p : Poly, ev p (fun m => c * φ m) = c * ev p φ
  | [] => by show (0 : Int) = c * 0; omega
  | t :: r => by
    show t.2 * (c * φ t.1) + ev r _ = c * (t.2 * φ t.1 + ev r φ)
    rw [ev_mulc c φ r, Int.mul_add, Int.mul_left_comm]
theorem ev_swap (F : Mono → Mono → Int) : ∀ p q : Poly, ev p (fun m => ev q (fun n => F m n)) = ev q (fun n => ev p (fun m => F m n))
  | [], q => (ev_zero q).symm
  | t :: r, q => by
    show t.2 * ev q (fun n => F t.1 n) + ev r _ = ev q (fun n => t.2 * F t.1 n + ev r (fun m => F m n))
    rw [ev_add, ev_mulc, ev_swap F r q]
/-- alike, whatever is asked -/
def Eqv (p q : Poly) : Prop := ∀ φ, ev p φ = ev q φ
theorem Eqv.refl (p : Poly) : Eqv p p := fun _ => rfl
theorem Eqv.symm {p q : Poly} (h : Eqv p q) : Eqv q p := fun φ => (h φ).symm
theorem Eqv.trans {p q r : Poly} (h : Eqv p q) (h' : Eqv q r) : Eqv p r := fun φ => (h φ).trans (h' φ)
def rmul (p q : Poly) : Poly := p.flatMap fun s => q.map fun t => (mmul s.1 t.1, s.2 * t.2)
def rneg (p : Poly) : Poly := p.map fun t => (t.1, -t.2)
def rpow (p : Poly) : Nat → Poly
  | 0 => [([], 1)]
  | k + 1 => rmul p (rpow p k)
theorem ev_map_mul (m : Mono) (c : Int) (φ : Mono → Int) : ∀ q : Poly, ev (q.map fun t => (mmul m t.1, c * t.2)) φ = c * ev q (fun n => φ (mmul m n))
  | [] => by show (0 : Int) = c * 0; omega
  | t :: r => by
    show c * t.2 * φ (mmul m t.1) + ev (r.map _) φ = c * (t.2 * φ (mmul m t.1) + ev r _)
    rw [ev_map_mul m c φ r, Int.mul_add, Int.mul_assoc]
theorem ev_rmul (φ : Mono → Int) (q : Poly) : ∀ p : Poly, ev (rmul p q) φ = ev p (fun m => ev q (fun n => φ (mmul m n)))
  | [] => rfl
  | t :: r => by
    show ev ((q.map fun s => (mmul t.1 s.1, t.2 * s.2)) ++ rmul r q) φ = _
    rw [ev_app, ev_map_mul, ev_rmul φ q r]
    rfl
theorem ev_rneg (φ : Mono → Int) : ∀ p : Poly, ev (rneg p) φ = - ev p φ
  | [] => rfl
  | t :: r => by
    show -t.2 * φ t.1 + ev (rneg r) φ = -(t.2 * φ t.1 + ev r φ)
    rw [ev_rneg φ r, Int.neg_mul]; omega
theorem MP.mul {p q : Poly} (hp : MP p) (hq : MP q) : MP (rmul p q) := fun t ht => by
  obtain ⟨s, hs, ht⟩ := List.mem_flatMap.mp ht
  obtain ⟨u, hu, rfl⟩ := List.mem_map.mp ht
  exact (hp s hs).mul (hq u hu)
theorem MP.app {p q : Poly} (hp : MP p) (hq : MP q) : MP (p ++ q) := fun t ht => (List.mem_append.mp ht).elim (hp t) (hq t)
theorem MP.neg {p : Poly} (hp : MP p) : MP (rneg p) := fun t ht => by
  obtain ⟨s, hs, rfl⟩ := List.mem_map.mp ht
  exact hp s hs
theorem MP.one : MP [([], (1 : Int))] := fun t ht => by simp at ht; subst ht; exact CanonM.nil
theorem MP.pow {p : Poly} (hp : MP p) : ∀ k, MP (rpow p k)
  | 0 => MP.one
  | k + 1 => hp.mul (hp.pow k)

/-! ### the ring, up to Eqv -/
theorem eqv_app {p p' q q' : Poly} (h : Eqv p p') (h' : Eqv q q') : Eqv (p ++ q) (p' ++ q') := fun φ => by rw [ev_app, ev_app, h φ, h' φ]
theorem eqv_neg {p p' : Poly} (h : Eqv p p') : Eqv (rneg p) (rneg p') := fun φ => by rw [ev_rneg, ev_rneg, h φ]
theorem eqv_mul {p p' q q' : Poly} (h : Eqv p p') (h' : Eqv q q') : Eqv (rmul p q) (rmul p' q') := fun φ => by
  rw [ev_rmul, ev_rmul, h]
  exact ev_congr fun t _ => h' _
theorem app_comm (p q : Poly) : Eqv (p ++ q) (q ++ p) := fun φ => by rw [ev_app, ev_app]; omega
theorem app_assoc (p q r : Poly) : Eqv ((p ++ q) ++ r) (p ++ (q ++ r)) := fun φ => by rw [List.append_assoc]
theorem mul_comm' {p q : Poly} (hp : MP p) (hq : MP q) : Eqv (rmul p q) (rmul q p) := fun φ => by
  rw [ev_rmul, ev_rmul, ev_swap (fun m n => φ (mmul m n)) p q]
  exact ev_congr fun t ht => ev_congr fun s hs => by rw [mmul_comm (hp s hs) (hq t ht)]
theorem mul_assoc' {p q r : Poly} (hp : MP p) (hq : MP q) (hr : MP r) : Eqv (rmul (rmul p q) r) (rmul p (rmul q r)) := fun φ => by
  rw [ev_rmul, ev_rmul, ev_rmul]
  refine ev_congr fun t ht => ?_
  show ev q (fun n => ev r (fun n' => φ (mmul (mmul t.1 n) n'))) = ev (rmul q r) (fun n => φ (mmul t.1 n))
  rw [ev_rmul]
  exact ev_congr fun s hs => ev_congr fun u hu => by rw [mmul_assoc (hp t ht) (hq s hs) (hr u hu)]
theorem mul_app (p q r : Poly) : Eqv (rmul p (q ++ r)) (rmul p q ++ rmul p r) := fun φ => by
  rw [ev_app, ev_rmul, ev_rmul, ev_rmul, ← ev_add]
  exact ev_congr fun t _ => ev_app _ _ _
theorem app_mul (p q r : Poly) : Eqv (rmul (p ++ q) r) (rmul p r ++ rmul q r) := fun φ => by
  rw [ev_app, ev_rmul, ev_rmul, ev_rmul, ev_app]
theorem mul_neg (p q : Poly) : Eqv (rmul p (rneg q)) (rneg (rmul p q)) := fun φ => by
  rw [ev_rneg, ev_rmul, ev_rmul]
  have : ev p (fun m => ev (rneg q) (fun n => φ (mmul m n))) = ev p (fun m => -1 * ev q (fun n => φ (mmul m n))) := ev_congr fun t _ => by rw [ev_rneg]; omega
  rw [this, ev_mulc]; omega
theorem one_mul' {p : Poly} (hp : MP p) : Eqv (rmul [([], 1)] p) p := fun φ => by
  rw [ev_rmul]
  show 1 * ev p (fun n => φ (mmul [] n)) + 0 = _
  rw [show ev p (fun n => φ (mmul [] n)) = ev p φ from ev_congr fun t ht => by rw [nil_mmul (hp t ht)]]
  omega
theorem mul_one' (p : Poly) : Eqv (rmul p [([], 1)]) p := fun φ => by
  rw [ev_rmul]
  exact ev_congr fun t _ => by show 1 * φ (mmul t.1 []) + 0 = φ t.1; rw [mmul_nil]; omega
theorem scal_mul {p : Poly} (hp : MP p) (c : Int) (φ : Mono → Int) : ev (rmul [([], c)] p) φ = c * ev p φ := by
  rw [ev_rmul]
  show c * ev p (fun n => φ (mmul [] n)) + 0 = _
  rw [show ev p (fun n => φ (mmul [] n)) = ev p φ from ev_congr fun t ht => by rw [nil_mmul (hp t ht)]]
  omega
theorem mul_scal {p : Poly} (c : Int) (φ : Mono → Int) : ev (rmul p [([], c)]) φ = c * ev p φ := by
  rw [ev_rmul, ← ev_mulc]
  exact ev_congr fun t _ => by show c * φ (mmul t.1 []) + 0 = c * φ t.1; rw [mmul_nil]; omega
theorem pow_add' {p : Poly} (hp : MP p) (b : Nat) : ∀ a, Eqv (rpow p (a + b)) (rmul (rpow p a) (rpow p b))
  | 0 => by rw [Nat.zero_add]; exact (one_mul' (hp.pow b)).symm
  | a + 1 => by
    rw [show a + 1 + b = (a + b) + 1 by omega]
    show Eqv (rmul p (rpow p (a + b))) (rmul (rmul p (rpow p a)) (rpow p b))
    exact (eqv_mul (.refl p) (pow_add' hp b a)).trans (mul_assoc' hp (hp.pow a) (hp.pow b)).symm
theorem pow_one' (p : Poly) : Eqv (rpow p 1) p := mul_one' p
theorem pow_two' (p : Poly) : Eqv (rpow p 2) (rmul p p) := eqv_mul (.refl p) (pow_one' p)
theorem eqv_pow {p q : Poly} (h : Eqv p q) : ∀ k, Eqv (rpow p k) (rpow q k)
  | 0 => .refl _
  | k + 1 => eqv_mul h (eqv_pow h k)

/-! ### the told form -/
structure CanonP (lt : Mono → Mono → Prop) (p : Poly) : Prop where
  rise : p.Pairwise fun s t => lt s.1 t.1
  nz : ∀ t ∈ p, t.2 ≠ 0
  mono : MP p
def keys (p : Poly) : List Mono := p.map (·.1)
def coef (p : Poly) (m : Mono) : Int := ev p fun k => if k = m then 1 else 0
theorem ev_out {φ : Mono → Int} : ∀ {p : Poly}, (∀ t ∈ p, φ t.1 = 0) → ev p φ = 0
  | [], _ => rfl
  | t :: r, h => by
    show t.2 * φ t.1 + ev r φ = 0
    rw [h t (.head _), ev_out fun s hs => h s (.tail _ hs)]; omega
theorem coef_out {p : Poly} {m : Mono} (h : m ∉ keys p) : coef p m = 0 := ev_out fun t ht => if_neg fun e => h (List.mem_map.mpr ⟨t, ht, e⟩)
theorem coef_in : ∀ {p : Poly} {m : Mono} {c : Int}, (keys p).Nodup → (m, c) ∈ p → coef p m = c
  | t :: r, m, c, hn, h => by
    obtain ⟨h1, h2⟩ := List.nodup_cons.mp (show (t.1 :: keys r).Nodup from hn)
    show t.2 * (if t.1 = m then 1 else 0) + coef r m = c
    rcases List.mem_cons.mp h with e | e
    · rw [← e]
      show c * (if m = m then 1 else 0) + coef r m = c
      rw [if_pos rfl, coef_out (by rw [← e] at h1; exact h1)]; omega
    · rw [if_neg fun z => h1 (List.mem_map.mpr ⟨(m, c), e, z.symm⟩), coef_in h2 e]; omega
theorem keys_of_coef {p : Poly} {m : Mono} (h : coef p m ≠ 0) : m ∈ keys p := Classical.byContradiction fun z => h (coef_out z)
section
variable {lt : Mono → Mono → Prop}
theorem CanonP.nodup {p : Poly} (irr : ∀ a, ¬ lt a a) (c : CanonP lt p) : (keys p).Nodup :=
  List.pairwise_map.mpr (List.Pairwise.imp (S := fun a b : Mono × Int => a.1 ≠ b.1) (fun {a b} (h : lt a.1 b.1) (e : a.1 = b.1) => irr a.1 (by rw [← e] at h; exact h)) c.rise)
theorem CanonP.coef_ne {p : Poly} (irr : ∀ a, ¬ lt a a) (c : CanonP lt p) {t : Mono × Int} (ht : t ∈ p) : coef p t.1 = t.2 := coef_in (c.nodup irr) ht
theorem canonP_ext (irr : ∀ a, ¬ lt a a) (tr : ∀ a b c, lt a b → lt b c → lt a c) {p q : Poly} (cp : CanonP lt p) (cq : CanonP lt q) (h : Eqv p q) : p = q := by
  have half : ∀ {p q : Poly}, CanonP lt p → CanonP lt q → Eqv p q → ∀ t, t ∈ p → t ∈ q := fun {p q} cp cq h t ht => by
    have e1 : coef p t.1 = t.2 := cp.coef_ne irr ht
    have e2 : coef q t.1 = t.2 := (h _).symm.trans e1
    have e3 : t.1 ∈ keys q := keys_of_coef (by rw [e2]; exact cp.nz t ht)
    obtain ⟨s, hs, e⟩ := List.mem_map.mp e3
    have e4 : coef q s.1 = s.2 := cq.coef_ne irr hs
    rw [e, e2] at e4
    have : s = t := Prod.ext e e4.symm
    exact this ▸ hs
  exact rising_ext (lt := fun s t : Mono × Int => lt s.1 t.1) (fun a => irr a.1) (fun a b c => tr a.1 b.1 c.1) cp.rise cq.rise fun t => ⟨half cp cq h t, half cq cp h.symm t⟩
theorem canonP_nil : CanonP lt [] := ⟨.nil, fun _ h => by simp at h, fun _ h => by simp at h⟩

/-! ### sizes -/
def nrm : Poly → Nat
  | [] => 0
  | t :: r => t.2.natAbs + nrm r
theorem nrm_app : ∀ p q : Poly, nrm (p ++ q) = nrm p + nrm q
  | [], q => by show nrm q = 0 + nrm q; omega
  | t :: r, q => by show t.2.natAbs + nrm (r ++ q) = t.2.natAbs + nrm r + nrm q; rw [nrm_app r q]; omega
theorem nrm_neg : ∀ p : Poly, nrm (rneg p) = nrm p
  | [] => rfl
  | t :: r => by show (-t.2).natAbs + nrm (rneg r) = _; rw [nrm_neg r, Int.natAbs_neg]; rfl
theorem nrm_map_mul (m : Mono) (c : Int) : ∀ q : Poly, nrm (q.map fun t => (mmul m t.1, c * t.2)) = c.natAbs * nrm q
  | [] => rfl
  | t :: r => by
    show (c * t.2).natAbs + nrm (r.map _) = c.natAbs * (t.2.natAbs + nrm r)
    rw [nrm_map_mul m c r, Int.natAbs_mul, Nat.mul_add]
theorem nrm_mul (q : Poly) : ∀ p : Poly, nrm (rmul p q) = nrm p * nrm q
  | [] => by show 0 = 0 * nrm q; omega
  | t :: r => by
    show nrm ((q.map fun s => (mmul t.1 s.1, t.2 * s.2)) ++ rmul r q) = (t.2.natAbs + nrm r) * nrm q
    rw [nrm_app, nrm_map_mul, nrm_mul q r, Nat.add_mul]
theorem len_neg (p : Poly) : (rneg p).length = p.length := List.length_map _
theorem len_mul (q : Poly) : ∀ p : Poly, (rmul p q).length = p.length * q.length
  | [] => by show 0 = 0 * q.length; omega
  | t :: r => by
    show ((q.map fun s => (mmul t.1 s.1, t.2 * s.2)) ++ rmul r q).length = (r.length + 1) * q.length
    rw [List.length_append, List.length_map, len_mul q r, Nat.add_mul]; omega
theorem nrm_pow (p : Poly) : ∀ k, nrm (rpow p k) = nrm p ^ k
  | 0 => rfl
  | k + 1 => by show nrm (rmul p (rpow p k)) = _; rw [nrm_mul, nrm_pow p k, Nat.pow_succ, Nat.mul_comm]
theorem len_pow (p : Poly) : ∀ k, (rpow p k).length = p.length ^ k
  | 0 => rfl
  | k + 1 => by show (rmul p (rpow p k)).length = _; rw [len_mul, len_pow p k, Nat.pow_succ, Nat.mul_comm]
theorem ev_le_nrm {φ : Mono → Int} {B : Nat} : ∀ {p : Poly}, (∀ t ∈ p, (φ t.1).natAbs ≤ B) → (ev p φ).natAbs ≤ nrm p * B
  | [], _ => by show (0 : Int).natAbs ≤ 0 * B; omega
  | t :: r, h => by
    have h1 := h t (.head _)
    have h2 := ev_le_nrm (φ := φ) (B := B) (p := r) fun s hs => h s (.tail _ hs)
    show (t.2 * φ t.1 + ev r φ).natAbs ≤ (t.2.natAbs + nrm r) * B
    have h3 : (t.2 * φ t.1).natAbs ≤ t.2.natAbs * B := by rw [Int.natAbs_mul]; exact Nat.mul_le_mul_left _ h1
    rw [Nat.add_mul]
    have := Int.natAbs_add_le (t.2 * φ t.1) (ev r φ)
    omega
theorem keys_sub (irr : ∀ a, ¬ lt a a) {p q : Poly} (cp : CanonP lt p) (h : Eqv p q) : ∀ m ∈ keys p, m ∈ keys q := fun m hm => by
  obtain ⟨t, ht, rfl⟩ := List.mem_map.mp hm
  refine keys_of_coef ?_
  have : coef q t.1 = t.2 := (h _).symm.trans (cp.coef_ne irr ht)
  rw [this]
  exact cp.nz t ht
theorem nodup_len {α : Type} [DecidableEq α] : ∀ {l m : List α}, l.Nodup → (∀ x ∈ l, x ∈ m) → l.length ≤ m.length
  | [], _, _, _ => Nat.zero_le _
  | a :: l, m, hn, h => by
    obtain ⟨h1, h2⟩ := List.nodup_cons.mp hn
    have ha := h a (.head _)
    have ih := nodup_len (l := l) (m := m.erase a) h2 fun x hx => (List.mem_erase_of_ne fun e => h1 (by rw [← e]; exact hx)).mpr (h x (.tail _ hx))
    rw [List.length_erase_of_mem ha] at ih
    have := List.length_pos_of_mem ha
    show l.length + 1 ≤ m.length
    omega
theorem len_le (irr : ∀ a, ¬ lt a a) {p q : Poly} (cp : CanonP lt p) (h : Eqv p q) : p.length ≤ q.length := by
  have := nodup_len (cp.nodup irr) (keys_sub irr cp h)
  unfold keys at this
  rwa [List.length_map, List.length_map] at this
theorem nrm_self (irr : ∀ a, ¬ lt a a) {p : Poly} (cp : CanonP lt p) : ((nrm p : Nat) : Int) = ev p fun m => (coef p m).sign := by
  have gen : ∀ (q : Poly), (∀ t ∈ q, coef p t.1 = t.2) → ((nrm q : Nat) : Int) = ev q fun m => (coef p m).sign := by
    intro q
    induction q with
    | nil => exact fun _ => rfl
    | cons t r ih =>
      intro h
      show ((t.2.natAbs + nrm r : Nat) : Int) = t.2 * (coef p t.1).sign + ev r _
      rw [← ih fun s hs => h s (.tail _ hs), h t (.head _), Int.mul_sign_self]
      omega
  exact gen p fun t ht => cp.coef_ne irr ht
theorem sign_small (x : Int) : x.sign.natAbs ≤ 1 := by
  rcases Int.lt_trichotomy x 0 with h | h | h
  · rw [Int.sign_eq_neg_one_of_neg h]; decide
  · rw [h]; decide
  · rw [Int.sign_eq_one_of_pos h]; decide
theorem nrm_le (irr : ∀ a, ¬ lt a a) {p q : Poly} (cp : CanonP lt p) (h : Eqv p q) : nrm p ≤ nrm q := by
  have h1 := nrm_self irr cp
  rw [h] at h1
  have h2 := ev_le_nrm (φ := fun m => (coef p m).sign) (B := 1) (p := q) fun t _ => sign_small _
  omega
theorem coef_le_nrm : ∀ {p : Poly} {t : Mono × Int}, t ∈ p → t.2.natAbs ≤ nrm p
  | s :: r, t, h => by
    show _ ≤ s.2.natAbs + nrm r
    rcases List.mem_cons.mp h with e | e
    · rw [e]; omega
    · have := coef_le_nrm e; omega

/-! ### where names come from -/
def Over (S : Str → Prop) (p : Poly) : Prop := ∀ t ∈ p, ∀ q ∈ t.1, S q.1
theorem mmul_mem : ∀ {b a : Mono} {q : Str × Int}, q ∈ mmul a b → (∃ p ∈ a, p.1 = q.1) ∨ ∃ p ∈ b, p.1 = q.1
  | [], a, q, h => .inl ⟨q, h, rfl⟩
  | p :: r, a, q, h => by
    rcases mmul_mem (b := r) (a := ins p.1 p.2 a) h with ⟨s, h1, h2⟩ | ⟨s, h1, h2⟩
    · rcases ins_mem h1 with e | ⟨u, h3, h4⟩
      · exact .inr ⟨p, .head _, e.symm.trans h2⟩
      · exact .inl ⟨u, h3, h4.trans h2⟩
    · exact .inr ⟨s, .tail _ h1, h2⟩
theorem Over.mul {S : Str → Prop} {p q : Poly} (hp : Over S p) (hq : Over S q) : Over S (rmul p q) := fun t ht u hu => by
  obtain ⟨s, hs, ht⟩ := List.mem_flatMap.mp ht
  obtain ⟨v, hv, rfl⟩ := List.mem_map.mp ht
  rcases mmul_mem hu with ⟨w, h1, h2⟩ | ⟨w, h1, h2⟩
  · rw [← h2]; exact hp s hs w h1
  · rw [← h2]; exact hq v hv w h1
theorem Over.app {S : Str → Prop} {p q : Poly} (hp : Over S p) (hq : Over S q) : Over S (p ++ q) := fun t ht => (List.mem_append.mp ht).elim (hp t) (hq t)
theorem Over.neg {S : Str → Prop} {p : Poly} (hp : Over S p) : Over S (rneg p) := fun t ht => by
  obtain ⟨s, hs, rfl⟩ := List.mem_map.mp ht
  exact hp s hs
theorem Over.one {S : Str → Prop} {c : Int} : Over S [([], c)] := fun t ht q hq => by simp at ht; subst ht; simp at hq
theorem Over.pow {S : Str → Prop} {p : Poly} (hp : Over S p) : ∀ k, Over S (rpow p k)
  | 0 => Over.one
  | k + 1 => hp.mul (hp.pow k)
theorem Over.of (irr : ∀ a, ¬ lt a a) {S : Str → Prop} {p q : Poly} (cp : CanonP lt p) (h : Eqv p q) (hq : Over S q) : Over S p := fun t ht u hu => by
  obtain ⟨s, hs, e⟩ := List.mem_map.mp (keys_sub irr cp h t.1 (List.mem_map.mpr ⟨t, ht, rfl⟩))
  exact hq s hs u (by rw [e]; exact hu)

/-! ### numbers at a place -/
def mval (s : Str → Int) : Mono → Int
  | [] => 1
  | p :: r => s p.1 ^ p.2.toNat * mval s r
theorem mval_ins (s : Str → Int) (n : Str) {k : Int} (hk : 1 ≤ k) : ∀ {m : Mono}, (∀ p ∈ m, 1 ≤ p.2) → mval s (ins n k m) = s n ^ k.toNat * mval s m
  | [], _ => rfl
  | p :: r, h => by
    have hp := h p (.head _)
    unfold ins
    split
    · rename_i e
      show s p.1 ^ (p.2 + k).toNat * mval s r = s n ^ k.toNat * (s p.1 ^ p.2.toNat * mval s r)
      rw [e, show (p.2 + k).toNat = k.toNat + p.2.toNat by omega, Int.pow_add, Int.mul_assoc]
    · split
      · rfl
      · show s p.1 ^ p.2.toNat * mval s (ins n k r) = s n ^ k.toNat * (s p.1 ^ p.2.toNat * mval s r)
        rw [mval_ins s n hk fun q hq => h q (.tail _ hq), Int.mul_left_comm]
theorem mval_mul (s : Str → Int) : ∀ {b a : Mono}, CanonM a → (∀ p ∈ b, 1 ≤ p.2) → mval s (mmul a b) = mval s a * mval s b
  | [], a, _, _ => by show mval s a = mval s a * 1; omega
  | p :: r, a, ca, h => by
    have hp := h p (.head _)
    have ih := mval_mul s (b := r) (a := ins p.1 p.2 a) (canon_ins hp ca) fun q hq => h q (.tail _ hq)
    show mval s (mmul (ins p.1 p.2 a) r) = mval s a * (s p.1 ^ p.2.toNat * mval s r)
    rw [ih, mval_ins s p.1 hp ca.pos, Int.mul_comm (s p.1 ^ _) (mval s a), Int.mul_assoc]
def pval (s : Str → Int) (p : Poly) : Int := ev p (mval s)
theorem pval_mul (s : Str → Int) {p q : Poly} (hp : MP p) (hq : MP q) : pval s (rmul p q) = pval s p * pval s q := by
  unfold pval
  rw [ev_rmul]
  have : ev p (fun m => ev q (fun n => mval s (mmul m n))) = ev p (fun m => ev q (mval s) * mval s m) := ev_congr fun t ht => by
    rw [Int.mul_comm, ← ev_mulc]
    exact ev_congr fun u hu => mval_mul s (hp t ht) (hq u hu).pos
  rw [this, ev_mulc, Int.mul_comm]
theorem pval_cube (s : Str → Int) {p : Poly} (hp : MP p) : pval s (rpow p 3) = pval s p * pval s p * pval s p := by
  show pval s (rmul p (rmul p (rmul p [([], 1)]))) = _
  rw [pval_mul s hp (hp.mul (hp.mul MP.one)), pval_mul s hp (hp.mul MP.one), pval_mul s hp MP.one]
  show pval s p * (pval s p * (pval s p * (1 * 1 + 0))) = _
  rw [show (1 : Int) * 1 + 0 = 1 by decide, Int.mul_one, Int.mul_assoc]
def tdeg : Mono → Nat
  | [] => 0
  | p :: r => p.2.toNat + tdeg r
theorem mval_small {s : Str → Int} (hs : ∀ n, (s n).natAbs ≤ 4) : ∀ m : Mono, (mval s m).natAbs ≤ 4 ^ tdeg m
  | [] => by show (1 : Int).natAbs ≤ 4 ^ 0; decide
  | p :: r => by
    show (s p.1 ^ p.2.toNat * mval s r).natAbs ≤ 4 ^ (p.2.toNat + tdeg r)
    rw [Int.natAbs_mul, Int.natAbs_pow, Nat.pow_add]
    exact Nat.mul_le_mul (Nat.pow_le_pow_left (hs _) _) (mval_small hs r)
theorem pval_small {s : Str → Int} (hs : ∀ n, (s n).natAbs ≤ 4) {p : Poly} {d : Nat} (hd : ∀ t ∈ p, tdeg t.1 ≤ d) : (pval s p).natAbs ≤ nrm p * 4 ^ d :=
  ev_le_nrm fun t ht => Nat.le_trans (mval_small hs t.1) (Nat.pow_le_pow_right (by decide) (hd t ht))

/-! ### degrees -/
structure DegIs (p : Poly) (x : Str) (d : Int) : Prop where
  le : ∀ t ∈ p, ex t.1 x ≤ d
  nn : 0 ≤ d
  at_ : d = 0 ∨ ∃ t ∈ p, ex t.1 x = d
theorem DegIs.uniq {p : Poly} {x : Str} {d e : Int} (h : DegIs p x d) (h' : DegIs p x e) : d = e := by
  have half : ∀ {d e : Int}, DegIs p x d → DegIs p x e → d ≤ e := fun {d e} h h' => by
    rcases h.at_ with z | ⟨t, ht, z⟩
    · rw [z]; exact h'.nn
    · rw [← z]; exact h'.le t ht
  exact Int.le_antisymm (half h h') (half h' h)
theorem DegIs.there {p : Poly} {x : Str} {d : Int} (h : DegIs p x d) (hp : MP p) (ne : p ≠ []) : ∃ t ∈ p, ex t.1 x = d := by
  rcases h.at_ with z | z
  · cases p with
    | nil => exact absurd rfl ne
    | cons t r =>
      refine ⟨t, .head _, ?_⟩
      have h1 := h.le t (.head _)
      have h2 := ex_nonneg x (hp t (.head _)).pos
      omega
  · exact z
/-- vectors of exponents by a list of names -/
def vec (L : List Str) (m : Mono) : List Int := L.map (ex m)
def vlt : List Int → List Int → Prop
  | a :: as, b :: bs => a < b ∨ (a = b ∧ vlt as bs)
  | _, _ => False
theorem vlt_irr : ∀ a, ¬ vlt a a
  | [], h => h
  | a :: as, h => by
    rcases h with h | ⟨_, h⟩
    · omega
    · exact vlt_irr as h
theorem vlt_tri : ∀ {a b : List Int}, a.length = b.length → vlt a b ∨ a = b ∨ vlt b a
  | [], [], _ => .inr (.inl rfl)
  | a :: as, b :: bs, h => by
    rcases Int.lt_trichotomy a b with l | l | l
    · exact .inl (.inl l)
    · subst l
      rcases vlt_tri (a := as) (b := bs) (by simpa using h) with z | z | z
      · exact .inl (.inr ⟨rfl, z⟩)
      · exact .inr (.inl (by rw [z]))
      · exact .inr (.inr (.inr ⟨rfl, z⟩))
    · exact .inr (.inr (.inl l))
theorem vlt_trans : ∀ {a b c : List Int}, vlt a b → vlt b c → vlt a c
  | [], _, _, h, _ => by cases h
  | _ :: _, [], _, h, _ => by cases h
  | _ :: _, _ :: _, [], _, h => by cases h
  | a :: as, b :: bs, c :: cs, h, h' => by
    rcases h with h | ⟨e, h⟩
    · rcases h' with h' | ⟨e', h'⟩
      · exact .inl (by omega)
      · exact .inl (by omega)
    · rcases h' with h' | ⟨e', h'⟩
      · exact .inl (by omega)
      · exact .inr ⟨e.trans e', vlt_trans h h'⟩
def vadd : List Int → List Int → List Int
  | a :: as, b :: bs => (a + b) :: vadd as bs
  | _, _ => []
theorem vec_mul {a b : Mono} (ca : CanonM a) (cb : CanonM b) : ∀ L : List Str, vec L (mmul a b) = vadd (vec L a) (vec L b)
  | [] => rfl
  | x :: L => by
    show ex (mmul a b) x :: vec L (mmul a b) = (ex a x + ex b x) :: vadd (vec L a) (vec L b)
    rw [ex_mmul x ca cb, vec_mul ca cb L]
/-- less or the same in both, less in one: less in the sum -/
theorem vadd_lt : ∀ {a b c d : List Int}, a.length = b.length → c.length = d.length → a.length = c.length → (vlt a b ∨ a = b) → vlt c d → vlt (vadd a c) (vadd b d)
  | [], [], [], [], _, _, _, _, h => by cases h
  | a :: as, b :: bs, c :: cs, d :: ds, h1, h2, h3, h, h' => by
    have l1 : as.length = bs.length := by simpa using h1
    have l2 : cs.length = ds.length := by simpa using h2
    have l3 : as.length = cs.length := by simpa using h3
    show (a + c < b + d) ∨ (a + c = b + d ∧ vlt (vadd as cs) (vadd bs ds))
    rcases h with (h | ⟨e, h⟩) | h
    · rcases h' with h' | ⟨e', h'⟩
      · exact .inl (by omega)
      · exact .inl (by omega)
    · rcases h' with h' | ⟨e', h'⟩
      · exact .inl (by omega)
      · exact .inr ⟨by omega, vadd_lt l1 l2 l3 (.inl h) h'⟩
    · injection h with e h
      rcases h' with h' | ⟨e', h'⟩
      · exact .inl (by omega)
      · exact .inr ⟨by omega, vadd_lt l1 l2 l3 (.inr h) h'⟩
theorem vadd_comm : ∀ a b : List Int, vadd a b = vadd b a
  | [], [] => rfl
  | [], _ :: _ => rfl
  | _ :: _, [] => rfl
  | a :: as, b :: bs => by show (a + b) :: vadd as bs = (b + a) :: vadd bs as; rw [vadd_comm as bs, Int.add_comm]
/-- a greatest one -/
theorem vmax (L : List Str) : ∀ {p : Poly}, p ≠ [] → ∃ t ∈ p, ∀ s ∈ p, vlt (vec L s.1) (vec L t.1) ∨ vec L s.1 = vec L t.1
  | [], h => absurd rfl h
  | [t], _ => ⟨t, .head _, fun s hs => .inr (by simp at hs; rw [hs])⟩
  | t :: u :: r, _ => by
    obtain ⟨m, hm, h⟩ := vmax L (p := u :: r) (by simp)
    rcases vlt_tri (a := vec L t.1) (b := vec L m.1) (by simp [vec]) with z | z | z
    · exact ⟨m, .tail _ hm, fun s hs => (List.mem_cons.mp hs).elim (fun e => .inl (by rw [e]; exact z)) (h s)⟩
    · exact ⟨m, .tail _ hm, fun s hs => (List.mem_cons.mp hs).elim (fun e => .inr (by rw [e]; exact z)) (h s)⟩
    · refine ⟨t, .head _, fun s hs => (List.mem_cons.mp hs).elim (fun e => .inr (by rw [e])) fun hs => ?_⟩
      rcases h s hs with y | y
      · exact .inl (vlt_trans y z)
      · exact .inl (by rw [y]; exact z)
def namesOf (p : Poly) : List Str := p.flatMap fun t => t.1.map (·.1)
theorem vec_inj {L : List Str} {a b : Mono} (ca : CanonM a) (cb : CanonM b) (ha : ∀ q ∈ a, q.1 ∈ L) (hb : ∀ q ∈ b, q.1 ∈ L) (h : vec L a = vec L b) : a = b := by
  refine canonM_ext ca cb fun n => ?_
  by_cases hn : n ∈ L
  · exact (List.map_inj_left.mp h) n hn
  · rw [ex_none fun q hq e => hn (by rw [← e]; exact ha q hq), ex_none fun q hq e => hn (by rw [← e]; exact hb q hq)]
/-- the greatest terms of p and q by L make a term of the product -/
theorem top_term {L : List Str} {p q : Poly} (irr : ∀ a, ¬ lt a a) (cp : CanonP lt p) (cq : CanonP lt q) (hL : ∀ n ∈ namesOf p ++ namesOf q, n ∈ L) {s t : Mono × Int} (hs : s ∈ p) (ht : t ∈ q)
    (ms : ∀ u ∈ p, vlt (vec L u.1) (vec L s.1) ∨ vec L u.1 = vec L s.1) (mt : ∀ u ∈ q, vlt (vec L u.1) (vec L t.1) ∨ vec L u.1 = vec L t.1) : coef (rmul p q) (mmul s.1 t.1) = s.2 * t.2 := by
  have inP : ∀ u ∈ p, ∀ x ∈ u.1, x.1 ∈ L := fun u hu x hx => hL _ (List.mem_append_left _ (List.mem_flatMap.mpr ⟨u, hu, List.mem_map.mpr ⟨x, hx, rfl⟩⟩))
  have inQ : ∀ u ∈ q, ∀ x ∈ u.1, x.1 ∈ L := fun u hu x hx => hL _ (List.mem_append_right _ (List.mem_flatMap.mpr ⟨u, hu, List.mem_map.mpr ⟨x, hx, rfl⟩⟩))
  have only : ∀ u ∈ p, ∀ v ∈ q, mmul u.1 v.1 = mmul s.1 t.1 → u.1 = s.1 ∧ v.1 = t.1 := fun u hu v hv e => by
    have ev := congrArg (vec L) e
    rw [vec_mul (cp.mono u hu) (cq.mono v hv), vec_mul (cp.mono s hs) (cq.mono t ht)] at ev
    have eu : vec L u.1 = vec L s.1 ∧ vec L v.1 = vec L t.1 := by
      rcases mt v hv with z | z
      · have y := vadd_lt (by simp [vec]) (by simp [vec]) (by simp [vec]) (ms u hu) z
        rw [ev] at y
        exact absurd y (vlt_irr _)
      · rcases ms u hu with w | w
        · have y := vadd_lt (by simp [vec]) (by simp [vec]) (by simp [vec]) (mt v hv) w
          rw [vadd_comm, ev, vadd_comm] at y
          exact absurd y (vlt_irr _)
        · exact ⟨w, z⟩
    exact ⟨vec_inj (cp.mono u hu) (cp.mono s hs) (inP u hu) (inP s hs) eu.1, vec_inj (cq.mono v hv) (cq.mono t ht) (inQ v hv) (inQ t ht) eu.2⟩
  unfold coef
  rw [ev_rmul]
  have e1 : ev p (fun m => ev q (fun n => if mmul m n = mmul s.1 t.1 then 1 else 0)) = ev p (fun m => t.2 * (if m = s.1 then 1 else 0)) := ev_congr fun u hu => by
    by_cases z : u.1 = s.1
    · rw [if_pos z, z]
      have e2 : ev q (fun n => if mmul s.1 n = mmul s.1 t.1 then (1 : Int) else 0) = coef q t.1 := ev_congr fun v hv => by
        by_cases y : v.1 = t.1
        · rw [if_pos y, y, if_pos rfl]
        · rw [if_neg y, if_neg fun w => y (only s hs v hv w).2]
      rw [e2, cq.coef_ne irr ht]; omega
    · rw [if_neg z, ev_out fun v hv => if_neg fun w => z (only u hu v hv w).1]; omega
  rw [e1, ev_mulc]
  show t.2 * coef p s.1 = _
  rw [cp.coef_ne irr hs, Int.mul_comm]
theorem mul_deg (irr : ∀ a, ¬ lt a a) {p q r : Poly} (cp : CanonP lt p) (cq : CanonP lt q) (cr : CanonP lt r) (h : Eqv r (rmul p q)) (np : p ≠ []) (nq : q ≠ []) :
    r ≠ [] ∧ ∀ x d e f, DegIs p x d → DegIs q x e → DegIs r x f → f = d + e := by
  have top : ∀ L : List Str, (∀ n ∈ namesOf p ++ namesOf q, n ∈ L) → ∃ s ∈ p, ∃ t ∈ q, (∀ u ∈ p, vlt (vec L u.1) (vec L s.1) ∨ vec L u.1 = vec L s.1) ∧ (∀ u ∈ q, vlt (vec L u.1) (vec L t.1) ∨ vec L u.1 = vec L t.1) ∧ mmul s.1 t.1 ∈ keys r := fun L hL => by
    obtain ⟨s, hs, ms⟩ := vmax L np
    obtain ⟨t, ht, mt⟩ := vmax L nq
    refine ⟨s, hs, t, ht, ms, mt, keys_of_coef ?_⟩
    have e : coef r (mmul s.1 t.1) = s.2 * t.2 := (h _).trans (top_term irr cp cq hL hs ht ms mt)
    rw [e]
    exact Int.mul_ne_zero (cp.nz s hs) (cq.nz t ht)
  refine ⟨fun e => ?_, fun x d e f hd he hf => ?_⟩
  · obtain ⟨s, _, t, _, _, _, hk⟩ := top (namesOf p ++ namesOf q) fun _ hn => hn
    rw [e] at hk
    exact absurd hk (by simp [keys])
  · obtain ⟨s, hs, t, ht, ms, mt, hk⟩ := top (x :: (namesOf p ++ namesOf q)) fun _ hn => .tail _ hn
    have first : ∀ {u s : Mono × Int}, vlt (vec (x :: (namesOf p ++ namesOf q)) u.1) (vec (x :: (namesOf p ++ namesOf q)) s.1) ∨ vec (x :: (namesOf p ++ namesOf q)) u.1 = vec (x :: (namesOf p ++ namesOf q)) s.1 → ex u.1 x ≤ ex s.1 x := fun {u s} h => by
      rcases h with (h | ⟨h, _⟩) | h
      · omega
      · omega
      · have h' : ex u.1 x :: vec (namesOf p ++ namesOf q) u.1 = ex s.1 x :: vec (namesOf p ++ namesOf q) s.1 := h
        injection h' with h' _
        omega
    have es : ex s.1 x = d := by
      obtain ⟨u, hu, eu⟩ := hd.there cp.mono np
      have h1 := first (ms u hu)
      have h2 := hd.le s hs
      omega
    have et : ex t.1 x = e := by
      obtain ⟨u, hu, eu⟩ := he.there cq.mono nq
      have h1 := first (mt u hu)
      have h2 := he.le t ht
      omega
    obtain ⟨w, hw, ew⟩ := List.mem_map.mp hk
    have lo : d + e ≤ f := by
      have h1 := hf.le w hw
      rw [ew, ex_mmul x (cp.mono s hs) (cq.mono t ht)] at h1
      omega
    have hi : f ≤ d + e := by
      rcases hf.at_ with z | ⟨w, hw, z⟩
      · have := hd.nn; have := he.nn; omega
      · obtain ⟨v, hv, ev'⟩ := List.mem_map.mp (keys_sub irr cr h w.1 (List.mem_map.mpr ⟨w, hw, rfl⟩))
        obtain ⟨a, ha, hv⟩ := List.mem_flatMap.mp hv
        obtain ⟨b, hb, rfl⟩ := List.mem_map.mp hv
        have h1 := hd.le a ha
        have h2 := he.le b hb
        have h3 : ex w.1 x = ex a.1 x + ex b.1 x := by rw [← ev']; exact ex_mmul x (cp.mono a ha) (cq.mono b hb)
        omega
    omega
theorem deg_names {p : Poly} (hp : MP p) {x : Str} {d : Int} (h : DegIs p x d) : x ∈ namesOf p ↔ 1 ≤ d := by
  refine ⟨fun hx => ?_, fun hd => ?_⟩
  · obtain ⟨t, ht, hx⟩ := List.mem_flatMap.mp hx
    obtain ⟨q, hq, rfl⟩ := List.mem_map.mp hx
    have h1 := h.le t ht
    rw [ex_of_mem (hp t ht) hq] at h1
    have := (hp t ht).pos q hq
    omega
  · rcases h.at_ with z | ⟨t, ht, z⟩
    · omega
    · refine List.mem_flatMap.mpr ⟨t, ht, List.mem_map.mpr ⟨(x, ex t.1 x), mem_of_ex (by omega), rfl⟩⟩
theorem deg_ex (p : Poly) (hp : MP p) (x : Str) : ∃ d, DegIs p x d := by
  induction p with
  | nil => exact ⟨0, ⟨fun _ h => by simp at h, Int.le_refl _, .inl rfl⟩⟩
  | cons t r ih =>
    obtain ⟨d, h⟩ := ih hp.tail
    have ht := ex_nonneg x (hp t (.head _)).pos
    by_cases c : ex t.1 x ≤ d
    · refine ⟨d, fun s hs => (List.mem_cons.mp hs).elim (fun e => by rw [e]; exact c) (h.le s), h.nn, ?_⟩
      rcases h.at_ with z | ⟨s, hs, z⟩
      · exact .inl z
      · exact .inr ⟨s, .tail _ hs, z⟩
    · refine ⟨ex t.1 x, fun s hs => (List.mem_cons.mp hs).elim (fun e => by rw [e]; omega) fun hs => ?_, ht, .inr ⟨t, .head _, rfl⟩⟩
      have := h.le s hs
      omega
theorem mul_names (irr : ∀ a, ¬ lt a a) {p q r : Poly} (cp : CanonP lt p) (cq : CanonP lt q) (cr : CanonP lt r) (h : Eqv r (rmul p q)) (np : p ≠ []) (nq : q ≠ []) (x : Str) :
    x ∈ namesOf r ↔ x ∈ namesOf p ∨ x ∈ namesOf q := by
  obtain ⟨d, hd⟩ := deg_ex p cp.mono x
  obtain ⟨e, he⟩ := deg_ex q cq.mono x
  obtain ⟨f, hf⟩ := deg_ex r cr.mono x
  have z := (mul_deg irr cp cq cr h np nq).2 x d e f hd he hf
  rw [deg_names cp.mono hd, deg_names cq.mono he, deg_names cr.mono hf]
  have := hd.nn
  have := he.nn
  omega

/-! ### dicts of terms -/
def getP : Poly → Mono → Option Int
  | [], _ => none
  | t :: r, k => if t.1 = k then some t.2 else getP r k
def putP (p : Poly) (k : Mono) (v : Int) : Poly := if (p.any fun t => decide (t.1 = k)) = true then p.map (fun t => if t.1 = k then (t.1, v) else t) else p ++ [(k, v)]
theorem getP_none : ∀ {p : Poly} {k : Mono}, getP p k = none ↔ k ∉ keys p
  | [], k => ⟨fun _ h => by simp [keys] at h, fun _ => rfl⟩
  | t :: r, k => by
    unfold getP
    have ih := getP_none (p := r) (k := k)
    show _ ↔ k ∉ t.1 :: keys r
    by_cases e : t.1 = k
    · rw [if_pos e]
      exact ⟨fun h => by simp at h, fun h => absurd (by rw [e]; exact .head _) h⟩
    · rw [if_neg e, ih]
      exact ⟨fun h z => (List.mem_cons.mp z).elim (fun y => e y.symm) h, fun h z => h (.tail _ z)⟩
theorem any_keys {p : Poly} {k : Mono} : (p.any fun t => decide (t.1 = k)) = true ↔ k ∈ keys p := by
  rw [List.any_eq_true]
  exact ⟨fun ⟨t, h, e⟩ => List.mem_map.mpr ⟨t, h, of_decide_eq_true e⟩, fun h => let ⟨t, h, e⟩ := List.mem_map.mp h; ⟨t, h, decide_eq_true e⟩⟩
theorem keys_map_put {k : Mono} {v : Int} (p : Poly) : keys (p.map fun t => if t.1 = k then (t.1, v) else t) = keys p := by
  unfold keys
  rw [List.map_map]
  refine List.map_congr_left fun t _ => ?_
  show (if t.1 = k then (t.1, v) else t).1 = t.1
  split <;> rfl
theorem keys_put {p : Poly} {k : Mono} {v : Int} : keys (putP p k v) = if k ∈ keys p then keys p else keys p ++ [k] := by
  unfold putP
  by_cases h : k ∈ keys p
  · rw [if_pos (any_keys.mpr h), if_pos h, keys_map_put]
  · rw [if_neg fun z => h (any_keys.mp z), if_neg h]
    unfold keys
    rw [List.map_append]
    rfl
theorem nodup_put {p : Poly} {k : Mono} {v : Int} (h : (keys p).Nodup) : (keys (putP p k v)).Nodup := by
  rw [keys_put]
  split
  · exact h
  · rename_i hk
    rw [List.nodup_append]
    exact ⟨h, by simp, fun a ha b hb e => hk (by simp at hb; rw [← hb, ← e]; exact ha)⟩
theorem mp_put {p : Poly} {k : Mono} {v : Int} (h : MP p) (hk : CanonM k) : MP (putP p k v) := by
  have : ∀ m ∈ keys (putP p k v), CanonM m := by
    rw [keys_put]
    intro m hm
    split at hm
    · obtain ⟨t, ht, rfl⟩ := List.mem_map.mp hm; exact h t ht
    · rcases List.mem_append.mp hm with hm | hm
      · obtain ⟨t, ht, rfl⟩ := List.mem_map.mp hm; exact h t ht
      · simp at hm; rw [hm]; exact hk
  exact fun t ht => this t.1 (List.mem_map.mpr ⟨t, ht, rfl⟩)
theorem len_put (p : Poly) (k : Mono) (v : Int) : (putP p k v).length ≤ p.length + 1 := by
  unfold putP
  split
  · rw [List.length_map]; omega
  · rw [List.length_append]; exact Nat.le_refl _
theorem ev_map_put {k : Mono} {v : Int} {φ : Mono → Int} : ∀ {p : Poly}, (keys p).Nodup → k ∈ keys p → ev (p.map fun t => if t.1 = k then (t.1, v) else t) φ = ev p φ + (v - (getP p k).getD 0) * φ k
  | [], _, h => by simp [keys] at h
  | t :: r, hn, h => by
    obtain ⟨h1, h2⟩ := List.nodup_cons.mp (show (t.1 :: keys r).Nodup from hn)
    unfold getP
    rw [List.map_cons]
    by_cases e : t.1 = k
    · rw [if_pos e, if_pos e]
      show v * φ t.1 + ev (r.map _) φ = t.2 * φ t.1 + ev r φ + (v - t.2) * φ k
      have e2 : (r.map fun t => if t.1 = k then (t.1, v) else t) = r := by
        have e3 : (r.map fun t => if t.1 = k then (t.1, v) else t) = r.map id := List.map_congr_left fun s hs => if_neg fun z : s.1 = k => h1 (List.mem_map.mpr ⟨s, hs, z.trans e.symm⟩)
        rw [e3, List.map_id]
      rw [e2, e, Int.sub_mul]; omega
    · rw [if_neg e, if_neg e]
      show t.2 * φ t.1 + ev (r.map _) φ = t.2 * φ t.1 + ev r φ + _
      have hk : k ∈ keys r := (List.mem_cons.mp (show k ∈ t.1 :: keys r from h)).elim (fun z => absurd z.symm e) id
      rw [ev_map_put h2 hk]; omega
theorem ev_put {p : Poly} {k : Mono} {v : Int} {φ : Mono → Int} (hn : (keys p).Nodup) : ev (putP p k v) φ = ev p φ + (v - (getP p k).getD 0) * φ k := by
  unfold putP
  by_cases h : k ∈ keys p
  · rw [if_pos (any_keys.mpr h), ev_map_put hn h]
  · rw [if_neg fun z => h (any_keys.mp z), ev_app, getP_none.mpr h]
    show ev p φ + (v * φ k + 0) = ev p φ + (v - 0) * φ k
    rw [Int.sub_zero]; omega
/-- so often more -/
theorem ev_put_more {p : Poly} {k : Mono} {c : Int} {φ : Mono → Int} (hn : (keys p).Nodup) : ev (putP p k ((getP p k).getD 0 + c)) φ = ev p φ + c * φ k := by
  rw [ev_put hn]
  have : (getP p k).getD 0 + c - (getP p k).getD 0 = c := by omega
  rw [this]
theorem getP_mem : ∀ {p : Poly} {k : Mono} {c : Int}, (keys p).Nodup → (k, c) ∈ p → getP p k = some c
  | t :: r, k, c, hn, h => by
    obtain ⟨h1, h2⟩ := List.nodup_cons.mp (show (t.1 :: keys r).Nodup from hn)
    unfold getP
    rcases List.mem_cons.mp h with e | e
    · rw [← e, if_pos rfl]
    · rw [if_neg fun z => h1 (List.mem_map.mpr ⟨(k, c), e, z.symm⟩)]; exact getP_mem h2 e
theorem ev_perm {p q : Poly} (h : p.Perm q) (φ : Mono → Int) : ev p φ = ev q φ := by
  induction h with
  | nil => rfl
  | cons t _ ih => show t.2 * φ t.1 + _ = t.2 * φ t.1 + _; rw [ih]
  | swap s t r => show t.2 * φ t.1 + (s.2 * φ s.1 + _) = s.2 * φ s.1 + (t.2 * φ t.1 + _); omega
  | trans _ _ i1 i2 => exact i1.trans i2
theorem ev_nonzero (φ : Mono → Int) : ∀ p : Poly, ev (p.filter fun t => decide (t.2 ≠ 0)) φ = ev p φ
  | [] => rfl
  | t :: r => by
    rw [List.filter_cons]
    by_cases h : t.2 = 0
    · rw [if_neg (by simp [h])]
      show ev _ φ = t.2 * φ t.1 + ev r φ
      rw [ev_nonzero φ r, h]; omega
    · rw [if_pos (by simp [h])]
      show t.2 * φ t.1 + ev _ φ = t.2 * φ t.1 + ev r φ
      rw [ev_nonzero φ r]
end
end K03
set_option Elab.async false
set_option linter.all false
set_option maxRecDepth 100000
set_option maxHeartbeats 4000000
namespace K03
open PySem PySem.Spec PyProof.Rows L2

/-! ### what stays -/
/-- dicts may change -/
def Soft : HO → Prop
  | .dK _ => True
  | .dT _ => True
  | .ext _ => True
  | _ => False
/-- all but the dicts stays -/
def Keep (H H' : Hp) : Prop := ∀ b o, H b = some o → ¬ Soft o → H' b = some o
theorem Keep.refl (H : Hp) : Keep H H := fun _ _ h _ => h
theorem Keep.trans {H H1 H2 : Hp} (a : Keep H H1) (b : Keep H1 H2) : Keep H H2 := fun c o h n => b c o (a c o h n) n
theorem Keep.of {H H' : Hp} (h : Same H H') : Keep H H' := fun b o e _ => h b o e
theorem keep_new {H : Hp} {p : Addr} {o : HO} (h : H p = none) : Keep H (upd H p o) := fun b u e _ => by
  rw [upd_ne (ne_of_none e h)]; exact e
theorem same_new {H : Hp} {p : Addr} {o : HO} (h : H p = none) : Same H (upd H p o) := fun b u e => by
  rw [upd_ne (ne_of_none e h)]; exact e
theorem keep_soft {H : Hp} {p : Addr} {o o' : HO} (h : H p = some o) (s : Soft o) : Keep H (upd H p o') := fun b u e n => by
  rw [upd_ne (ne_of e h fun z => n (z ▸ s))]; exact e
/-- an object that H does not know may change -/
theorem _root_.L2.Same.mut {H H' : Hp} {p : Addr} {o : HO} (e : Same H H') (h : H p = none) : Same H (upd H' p o) := fun a u ha => by
  rw [upd_ne (ne_of_none ha h)]; exact e a u ha
theorem Keep.mut {H H' : Hp} {p : Addr} {o : HO} (e : Keep H H') (h : H p = none) : Keep H (upd H' p o) := fun a u ha n => by
  rw [upd_ne (ne_of_none ha h)]; exact e a u ha n
section
variable {K : PySem.W.Frag} {H H' : Hp}
theorem sqL_keep {a : Addr} {xs : List V} (e : Keep H H') (h : SqL K H a xs) : SqL K H' a xs := by
  rcases h with (h | ⟨o, h⟩) | h
  · exact .inl (.inl (e _ _ h fun z => z))
  · exact .inl (.inr ⟨o, e _ _ h fun z => z⟩)
  · exact .inr h
theorem sqT_keep {a : Addr} {xs : List V} (e : Keep H H') (h : SqT K H a xs) : SqT K H' a xs := by
  rcases h with (h | ⟨o, h⟩) | h
  · exact .inl (.inl (e _ _ h fun z => z))
  · exact .inl (.inr ⟨o, e _ _ h fun z => z⟩)
  · exact .inr h
mutual
theorem dp_keep (e : Keep H H') : ∀ (d : PyData) (v : V), Dp K H v d → Dp K H' v d
  | .none, _, h => by cases h; exact .non
  | .bool b, _, h => by cases h; exact .bl b
  | .int i, _, h => by cases h; exact .int i
  | .str x, _, h => by cases h; exact .str x
  | .list ds, _, h => by cases h with | lst hs ha => exact .lst (sqL_keep e hs) (dpAll_keep e ds _ ha)
  | .tuple ds, _, h => by cases h with | tup hs ha => exact .tup (sqT_keep e hs) (dpAll_keep e ds _ ha)
  | .dict _, _, h => by cases h
theorem dpAll_keep (e : Keep H H') : ∀ (ds : List PyData) (vs : List V), DpAll K H vs ds → DpAll K H' vs ds
  | [], _, h => by cases h; exact .nil
  | d :: ds, _, h => by cases h with | cons h1 h2 => exact .cons (dp_keep e d _ h1) (dpAll_keep e ds _ h2)
end
end
end K03
namespace L2
open PySem PySem.Spec PyProof.Rows K03
section
variable {K : PySem.W.Frag} {H H' : Hp}
theorem Dp.keep {v : V} {d : PyData} (h : Dp K H v d) (e : Keep H H') : Dp K H' v d := dp_keep e d v h
theorem DpAll.keep {vs : List V} {ds : List PyData} (h : DpAll K H vs ds) (e : Keep H H') : DpAll K H' vs ds := dpAll_keep e ds vs h
theorem Dp.same {v : V} {d : PyData} (h : Dp K H v d) (e : Same H H') : Dp K H' v d := h.keep (.of e)
theorem DpAll.same {vs : List V} {ds : List PyData} (h : DpAll K H vs ds) (e : Same H H') : DpAll K H' vs ds := h.keep (.of e)
theorem DpAll.len : ∀ {vs : List V} {ds : List PyData}, DpAll K H vs ds → vs.length = ds.length
  | [], [], _ => rfl
  | [], _ :: _, h => by cases h
  | _ :: _, [], h => by cases h
  | _ :: _, _ :: _, h => by cases h with | cons _ h2 => exact congrArg Nat.succ (DpAll.len h2)
theorem DpAll.at_ : ∀ {vs : List V} {ds : List PyData} {i : Nat} {v : V}, DpAll K H vs ds → vs[i]? = some v → ∃ d, ds[i]? = some d ∧ Dp K H v d
  | [], _, _, _, _, e => by simp at e
  | _ :: _, [], _, _, h, _ => by cases h
  | _ :: _, _ :: _, 0, _, h, e => by cases h with | cons h1 _ => simp at e; subst e; exact ⟨_, rfl, h1⟩
  | _ :: vs, _ :: ds, i + 1, v, h, e => by
    cases h with
    | cons _ h2 =>
      obtain ⟨d, e1, e2⟩ := DpAll.at_ (i := i) (v := v) h2 (by simpa using e)
      exact ⟨d, by simpa using e1, e2⟩
theorem DpAll.get : ∀ {vs : List V} {ds : List PyData} {i : Nat} {d : PyData}, DpAll K H vs ds → ds[i]? = some d → ∃ v, vs[i]? = some v ∧ Dp K H v d
  | _, [], _, _, _, e => by simp at e
  | [], _ :: _, _, _, h, _ => by cases h
  | _ :: _, _ :: _, 0, _, h, e => by cases h with | cons h1 _ => simp at e; subst e; exact ⟨_, rfl, h1⟩
  | _ :: vs, _ :: ds, i + 1, d, h, e => by
    cases h with
    | cons _ h2 =>
      obtain ⟨v, e1, e2⟩ := DpAll.get (i := i) (d := d) h2 (by simpa using e)
      exact ⟨v, by simpa using e1, e2⟩
theorem DpAll.snoc {v : V} {d : PyData} (h1 : Dp K H v d) : ∀ {vs : List V} {ds : List PyData}, DpAll K H vs ds → DpAll K H (vs ++ [v]) (ds ++ [d])
  | [], [], _ => .cons h1 .nil
  | [], _ :: _, h => by cases h
  | _ :: _, [], h => by cases h
  | _ :: _, _ :: _, h => by cases h with | cons a b => exact .cons a (DpAll.snoc h1 b)
theorem Dp.tupI {v : V} {ds : List PyData} (h : Dp K H v (.tuple ds)) : ∃ a xs, v = .ref a ∧ SqT K H a xs ∧ DpAll K H xs ds := by
  cases h with | tup h1 h2 => exact ⟨_, _, rfl, h1, h2⟩
theorem Dp.lstI {v : V} {ds : List PyData} (h : Dp K H v (.list ds)) : ∃ a xs, v = .ref a ∧ SqL K H a xs ∧ DpAll K H xs ds := by
  cases h with | lst h1 h2 => exact ⟨_, _, rfl, h1, h2⟩
theorem Dp.intI {v : V} {i : Int} (h : Dp K H v (.int i)) : v = .int i := by cases h; rfl
theorem Dp.strI {v : V} {x : Str} (h : Dp K H v (.str x)) : v = .str x := by cases h; rfl
theorem DpAll.two {vs : List V} {d e : PyData} (h : DpAll K H vs [d, e]) : ∃ v w, vs = [v, w] ∧ Dp K H v d ∧ Dp K H w e := by
  cases h with
  | cons h1 h2 =>
    cases h2 with
    | cons h3 h4 =>
      cases h4
      exact ⟨_, _, rfl, h1, h3⟩
/-- a new tuple of known things -/
theorem Dp.newTup {p : Addr} {xs : List V} {ds : List PyData} (hp : H p = some (.tup xs)) (h : DpAll K H xs ds) : Dp K H (.ref p) (.tuple ds) := .tup (.inl (.inl hp)) h
theorem Dp.newLst {p : Addr} {xs : List V} {ds : List PyData} (hp : H p = some (.lst xs)) (h : DpAll K H xs ds) : Dp K H (.ref p) (.list ds) := .lst (.inl (.inl hp)) h
end

end L2
namespace K03
open PySem PySem.Spec PyProof.Rows L2
/-! ### monomials and polynomials as data -/
def encQ (q : Str × Int) : PyData := .tuple [.str q.1, .int q.2]
def encM (m : Mono) : PyData := .tuple (m.map encQ)
def encT (t : Mono × Int) : PyData := .tuple [encM t.1, .int t.2]
def encP (p : Poly) : PyData := .tuple (p.map encT)
def encQL (q : Str × Int) : PyData := .list [.str q.1, .int q.2]
def encML (m : Mono) : PyData := .list (m.map encQL)
def encTL (t : Mono × Int) : PyData := .list [encML t.1, .int t.2]
def encPL (p : Poly) : PyData := .list (p.map encTL)

/-! ### monomials as keys -/
def keyQ (q : Str × Int) : NestedKey := .tup [.text q.1, .num q.2]
def keyM (m : Mono) : NestedKey := .tup (m.map keyQ)
theorem keyQ_inj {p q : Str × Int} (h : keyQ p = keyQ q) : p = q := by
  unfold keyQ at h
  injection h with h
  injection h with h1 h2
  injection h1 with h1
  injection h2 with h2 _
  injection h2 with h2
  exact Prod.ext h1 h2
theorem map_inj {α β : Type} {f : α → β} (hf : ∀ a b, f a = f b → a = b) : ∀ {l m : List α}, l.map f = m.map f → l = m
  | [], [], _ => rfl
  | [], _ :: _, h => by simp at h
  | _ :: _, [], h => by simp at h
  | a :: l, b :: m, h => by
    rw [List.map_cons, List.map_cons] at h
    injection h with h1 h2
    rw [hf _ _ h1, map_inj hf h2]
theorem keyM_inj {a b : Mono} (h : keyM a = keyM b) : a = b := by
  unfold keyM at h
  injection h with h
  exact map_inj (fun _ _ => keyQ_inj) h
theorem nodup_map {α β : Type} {f : α → β} (hf : ∀ a b, f a = f b → a = b) : ∀ {l : List α}, l.Nodup → (l.map f).Nodup
  | [], _ => .nil
  | a :: l, h => by
    obtain ⟨h1, h2⟩ := List.nodup_cons.mp h
    refine List.nodup_cons.mpr ⟨fun z => ?_, nodup_map hf h2⟩
    obtain ⟨b, hb, e⟩ := List.mem_map.mp z
    exact h1 (hf _ _ e ▸ hb)
theorem keyM_depth (m : Mono) : (keyM m).depth ≤ 2 := by
  have h : ∀ m : Mono, NestedKey.depthAll (m.map keyQ) ≤ 1 := by
    intro m
    induction m with
    | nil => exact Nat.zero_le _
    | cons q r ih =>
      rw [List.map_cons, NestedKey.depthAll]
      have e : (keyQ q).depth = 1 := rfl
      rw [e]
      exact Nat.max_le.mpr ⟨Nat.le_refl _, ih⟩
  unfold keyM
  rw [NestedKey.depth]
  have := h m
  omega
section
variable {X : Cx} {pins : List (Addr × Obj)} {σ : L2.St} {H : Hp} {s : Shared}
theorem nested_q (I : Inv X pins σ H s) {q : Str × Int} {v : V} {u : Value} (h : Dp X.K H v (encQ q)) (r : RelV v u) : NestedIs s.heap (keyQ q) u := by
  obtain ⟨a, xs, rfl, hs, ha⟩ := h.tupI
  obtain ⟨x, y, rfl, h1, h2⟩ := ha.two
  cases h1.strI
  cases h2.intI
  cases (show u = Value.ref a from r)
  obtain ⟨its, rv, ⟨o, ho, hc, n, hd⟩, _⟩ := I.tuple hs
  obtain ⟨u1, u2, rfl, r1, r2⟩ := vals2 rv
  obtain ⟨t1, rfl⟩ := r1
  obtain ⟨t2, rfl⟩ := r2
  exact .tup ho hc hd (.cons (.text _ _) (.cons (.int _ _) .nil))
theorem nested_all (I : Inv X pins σ H s) : ∀ {m : Mono} {vs : List V} {us : List Value}, DpAll X.K H vs (m.map encQ) → Vals vs us → NestedAll s.heap (m.map keyQ) us
  | [], _, _, h, r => by
    cases h
    cases r
    exact .nil
  | q :: m, _, _, h, r => by
    rw [List.map_cons] at h
    cases h with
    | cons h1 h2 =>
      cases r with
      | cons r1 r2 => exact .cons (nested_q I h1 r1) (nested_all I h2 r2)
theorem key_is (I : Inv X pins σ H s) {m : Mono} {b : Addr} (h : Dp X.K H (.ref b) (encM m)) : (nestedKind X.prog X.w).is s.heap (keyM m) b := by
  obtain ⟨a, xs, e, hs, ha⟩ := h.tupI
  cases e
  obtain ⟨its, rv, ⟨o, ho, hc, n, hd⟩, _⟩ := I.tuple hs
  exact ⟨.tup ho hc hd (by simpa using nested_all I ha rv), Nat.le_trans (keyM_depth m) (by decide)⟩
end

/-! ### dicts from monomials to integers -/
/-- at b stands a tuple of these, one without a dict of its own -/
def Plain (H : Hp) (b : Addr) (xs : List V) : Prop := ∃ o : Obj, H b = some (.frz o (.tup xs)) ∧ o.dict = none
theorem Plain.keep {H H' : Hp} {b : Addr} {xs : List V} (h : Plain H b xs) (e : Keep H H') : Plain H' b xs := let ⟨o, h1, h2⟩ := h; ⟨o, e _ _ h1 fun z => z, h2⟩
theorem Plain.sq {K : PySem.W.Frag} {H : Hp} {b : Addr} {xs : List V} (h : Plain H b xs) : SqT K H b xs := let ⟨o, h1, _⟩ := h; .inl (.inr ⟨o, h1⟩)
/-- at b stands the monomial m, as a key -/
def MK (K : PySem.W.Frag) (H : Hp) (b : Addr) (m : Mono) : Prop := ∃ xs, Plain H b xs ∧ DpAll K H xs (m.map encQ)
theorem MK.keep {K : PySem.W.Frag} {H H' : Hp} {b : Addr} {m : Mono} (h : MK K H b m) (e : Keep H H') : MK K H' b m := let ⟨xs, h1, h2⟩ := h; ⟨xs, h1.keep e, h2.keep e⟩
theorem MK.dp {K : PySem.W.Frag} {H : Hp} {b : Addr} {m : Mono} (h : MK K H b m) : Dp K H (.ref b) (encM m) := let ⟨_, h1, h2⟩ := h; .tup h1.sq h2
/-- the very dict -/
def RawD (a : Addr) (es : Array DictEntry) (ep : Nat) : HO := .ext fun h => h.DictRaw a es ep
theorem rawD_soft {a : Addr} {es : Array DictEntry} {ep : Nat} : Soft (RawD a es ep) := True.intro
theorem rawD_ok {P : Program} {w : World} {H : Hp} {h : Heap} {a : Addr} {es : Array DictEntry} {ep : Nat} (x : h.DictRaw a es ep) : ObjOk P w H h a (RawD a es ep) :=
  ⟨x, let ⟨o, e, _⟩ := x; ⟨o, e⟩, fun _ _ p k => Heap.DictRaw.at p k⟩
abbrev Rows (K : PySem.W.Frag) (H : Hp) : Poly → List (NestedKey × Addr × Value) → Prop :=
  Paired fun t x => x.1 = keyM t.1 ∧ MK K H x.2.1 t.1 ∧ RelV (.int t.2) x.2.2
/-- at a stands a dict with the terms kvs, in this order -/
def NDAt (K : PySem.W.Frag) (P : Program) (w : World) (H : Hp) (a : Addr) (kvs : Poly) : Prop :=
  ∃ es ep xs, H a = some (RawD a es ep) ∧ es.toList = xs.map (entryOfKey (nestedKind P w)) ∧ Rows K H kvs xs ∧ (keys kvs).Nodup ∧ kvs.length ≤ sizeLine ∧ (a == sysModules) = false
section
variable {K : PySem.W.Frag} {P : Program} {w : World} {H H' : Hp} {a : Addr} {kvs : Poly}
theorem Rows.keep {xs : List (NestedKey × Addr × Value)} (r : Rows K H kvs xs) (e : Keep H H') : Rows K H' kvs xs := Paired.mapP r fun _ _ z => ⟨z.1, z.2.1.keep e, z.2.2⟩
theorem NDAt.nodup (h : NDAt K P w H a kvs) : (keys kvs).Nodup := let ⟨_, _, _, _, _, _, n, _⟩ := h; n
theorem NDAt.size (h : NDAt K P w H a kvs) : kvs.length ≤ sizeLine := let ⟨_, _, _, _, _, _, _, n, _⟩ := h; n
theorem NDAt.there (h : NDAt K P w H a kvs) : ∃ o, H a = some o ∧ Soft o := let ⟨_, _, _, e, _⟩ := h; ⟨_, e, True.intro⟩
theorem NDAt.keep (h : NDAt K P w H a kvs) (e : Keep H H') (ea : H' a = H a) : NDAt K P w H' a kvs := by
  obtain ⟨es, ep, xs, h1, h2, h3, h4⟩ := h
  exact ⟨es, ep, xs, ea.trans h1, h2, h3.keep e, h4⟩
theorem NDAt.same (h : NDAt K P w H a kvs) (e : Same H H') : NDAt K P w H' a kvs := h.keep (.of e) (by
  obtain ⟨o, ho, _⟩ := h.there
  rw [ho, e _ _ ho])
theorem NDAt.upd {b : Addr} {o : HO} (h : NDAt K P w H a kvs) (hb : b ≠ a) (k : Keep H (upd H b o)) : NDAt K P w (L2.upd H b o) a kvs := h.keep k (upd_ne fun e => hb e.symm)
theorem Rows.nodup : ∀ {kvs : Poly} {xs : List (NestedKey × Addr × Value)}, Rows K H kvs xs → xs.map (·.1) = (keys kvs).map keyM
  | [], [], _ => rfl
  | [], _ :: _, h => by cases h
  | _ :: _, [], h => by cases h
  | t :: r, x :: xs, h => by
    cases h with
    | cons h1 h2 =>
      show x.1 :: xs.map (·.1) = keyM t.1 :: (keys r).map keyM
      rw [h1.1, Rows.nodup h2]
theorem Rows.len {xs : List (NestedKey × Addr × Value)} (h : Rows K H kvs xs) : kvs.length = xs.length := Paired.length h
theorem Rows.at_ : ∀ {kvs : Poly} {xs : List (NestedKey × Addr × Value)} (m : Mono), Rows K H kvs xs →
    (getP kvs m = none ∧ atKey xs (keyM m) = none) ∨ ∃ c b u, getP kvs m = some c ∧ atKey xs (keyM m) = some (b, u) ∧ RelV (.int c) u
  | [], [], _, _ => .inl ⟨rfl, rfl⟩
  | [], _ :: _, _, h => by cases h
  | _ :: _, [], _, h => by cases h
  | t :: r, x :: xs, m, h => by
    cases h with
    | cons h1 h2 =>
      obtain ⟨e1, e2, e3⟩ := h1
      unfold getP
      by_cases z : t.1 = m
      · rw [if_pos z]
        refine .inr ⟨t.2, x.2.1, x.2.2, rfl, ?_, e3⟩
        have : x.1 = keyM m := by rw [e1, z]
        simp [atKey, List.find?_cons, this]
      · rw [if_neg z]
        have ne : ¬ x.1 = keyM m := fun y => z (keyM_inj (e1.symm.trans y))
        have e : atKey (x :: xs) (keyM m) = atKey xs (keyM m) := by simp [atKey, List.find?_cons, ne]
        rw [e]
        exact Rows.at_ m h2
theorem Rows.put {b : Addr} {c : Int} {u : Value} {m : Mono} (hb : MK K H b m) (ru : RelV (.int c) u) {kvs : Poly} {xs : List (NestedKey × Addr × Value)} (h : Rows K H kvs xs) : Rows K H (putP kvs m c) (storedH xs (keyM m) b u) := by
  have repl : ∀ {kvs : Poly} {xs : List (NestedKey × Addr × Value)}, Rows K H kvs xs → Rows K H (kvs.map fun t => if t.1 = m then (t.1, c) else t) (xs.map (putAt (keyM m) u)) := by
    intro kvs xs h
    induction h with
    | nil => exact .nil
    | @cons t x ts xs h1 _ ih =>
      rw [List.map_cons, List.map_cons]
      refine .cons ?_ ih
      obtain ⟨e1, e2, e3⟩ := h1
      unfold putAt
      by_cases z : t.1 = m
      · rw [if_pos z, if_pos (by rw [e1, z])]; exact ⟨e1, e2, ru⟩
      · rw [if_neg z, if_neg fun y => z (keyM_inj (e1.symm.trans y))]; exact ⟨e1, e2, e3⟩
  unfold putP storedH
  rcases h.at_ m with ⟨g, e⟩ | ⟨c', b', u', g, e, _⟩
  · rw [e, if_neg (fun z => getP_none.mp g (any_keys.mp z)), if_neg (by simp)]
    exact Paired.snoc h ⟨rfl, hb, ru⟩
  · have hk : m ∈ keys kvs := Classical.byContradiction fun z => by rw [getP_none.mpr z] at g; cases g
    rw [e, if_pos (any_keys.mpr hk), if_pos (show (some (b', u')).isSome = true from rfl)]
    exact repl h
end
section
variable {X : Cx} {pins : List (Addr × Obj)} {σ : L2.St} {H : Hp} {s : Shared} {a b : Addr} {kvs : Poly} {m : Mono} {A : Around} {E : Value → Shared → Prop}
abbrev ND (X : Cx) := NDAt X.K X.prog X.w
theorem Rows.is (I : Inv X pins σ H s) : ∀ {kvs : Poly} {xs : List (NestedKey × Addr × Value)}, Rows X.K H kvs xs → ∀ x ∈ xs, (nestedKind X.prog X.w).is s.heap x.1 x.2.1
  | [], [], _, _, hx => by cases hx
  | [], _ :: _, h, _, _ => by cases h
  | _ :: _, [], h, _, _ => by cases h
  | t :: r, x :: xs, h, y, hy => by
    cases h with
    | cons h1 h2 =>
      rcases List.mem_cons.mp hy with e | e
      · subst e
        rw [h1.1]
        exact key_is I h1.2.1.dp
      · exact Rows.is I h2 y e
/-- what the model knows of such a dict -/
theorem NDAt.raw (I : Inv X pins σ H s) (h : ND X H a kvs) : ∃ es ep xs, H a = some (RawD a es ep) ∧ s.heap.DictRaw a es ep ∧ es.toList = xs.map (entryOfKey (nestedKind X.prog X.w)) ∧ Rows X.K H kvs xs ∧ s.heap.DictOfH (nestedKind X.prog X.w) a xs := by
  obtain ⟨es, ep, xs, h1, h2, h3, h4, h5, h6⟩ := h
  obtain ⟨hr, _, _⟩ := (show ObjOk X.prog X.w H s.heap a (RawD a es ep) from I.hok a _ h1)
  refine ⟨es, ep, xs, h1, hr, h2, h3, ?_⟩
  obtain ⟨o, ho, hx, hd⟩ := hr
  refine ⟨o, es, ep, ho, hx, hd, h2, h3.is I, ?_⟩
  rw [h3.nodup]
  exact nodup_map (fun _ _ => keyM_inj) h4
end
end K03
set_option Elab.async false
set_option linter.all false
set_option maxRecDepth 100000
set_option maxHeartbeats 4000000
/-! dicts from monomials to integers: their operations over the layer -/
namespace K03
open PySem PySem.Spec PyProof.Rows L2
section
variable {X : Cx} {pins : List (Addr × Obj)} {σ : L2.St} {H : Hp} {s : Shared} {a b : Addr} {kvs : Poly} {m : Mono} {c : Int} {A : Around} {E : Value → Shared → Prop}
theorem room_in1 {P : Program} {w : World} {A : Around} (hu : A.units + 64 < cLine) : (nestedKind P w).room A.in1 := by
  show A.units + 1 + 8 < cLine
  omega
theorem room_at {P : Program} {w : World} {A : Around} (hu : A.units + 64 < cLine) : (nestedKind P w).room A := by
  show A.units + 8 < cLine
  omega
theorem room_in2 {P : Program} {w : World} {A : Around} (hu : A.units + 64 < cLine) : (nestedKind P w).room A.in1.in1 := by
  show A.units + 1 + 1 + 8 < cLine
  omega
/-- d[k], there -/
theorem nd_getItem {Q : Value → Shared → Prop} (hu : A.units + 64 < cLine) (I : Inv X pins σ H s) (h : ND X H a kvs) (hb : MK X.K H b m) (hg : getP kvs m = some c)
    (q : ∀ u s', Inv X pins σ H s' → RelV (.int c) u → Q u s') : wpAny (model X.prog X.w) A (getItem (.ref a) (.ref b)) Q E s := by
  obtain ⟨es, ep, xs, _, _, _, hr, hd⟩ := h.raw I
  rcases hr.at_ m with ⟨e, _⟩ | ⟨c', b', u, e1, e2, e3⟩
  · rw [hg] at e; cases e
  · rw [hg] at e1
    cases e1
    exact wpAny_getItem_heap (room_in1 hu) (key_is I hb.dp) hd e2 (q u _ (I.tok _) e3)
/-- d.get(k, x) -/
theorem nd_getOr {Q : Value → Shared → Prop} {dv : Value} {d0 : Int} (hu : A.units + 64 < cLine) (I : Inv X pins σ H s) (h : ND X H a kvs) (hb : MK X.K H b m) (rd : RelV (.int d0) dv)
    (q : ∀ u s', Inv X pins σ H s' → RelV (.int ((getP kvs m).getD d0)) u → Q u s') : wpAny (model X.prog X.w) A (call (.builtin "dict.get") [.ref a, .ref b, dv]) Q E s := by
  obtain ⟨_, _, _, _, _, _, _, _, hS⟩ := id h
  obtain ⟨es, ep, xs, _, _, _, hr, hd⟩ := h.raw I
  refine call_meetsIn PySem.F.slot_dict_get hd.typeIs PySem.F.entry_dict_get (PySem.F.args_dict_get_3 _ _ _) (meetsH_dict_get_default (nestedKind X.prog X.w) a b hS dv) ⟨room_in1 hu, keyM m, xs, key_is I hb.dp, hd, ?_⟩
  rcases hr.at_ m with ⟨e1, e2⟩ | ⟨c', b', u, e1, e2, e3⟩
  · rw [e2]
    exact q dv _ (I.tok _) (by rw [e1]; exact rd)
  · rw [e2]
    exact q u _ (I.tok _) (by rw [e1]; exact e3)
/-- behind a store -/
theorem nd_put {h' : Heap} {t' : Nat} {xs : List (NestedKey × Addr × Value)} {u : Value} (I : Inv X pins σ H s) (h : ND X H a kvs) (hl : kvs.length < sizeLine) (hb : MK X.K H b m) (ru : RelV (.int c) u)
    (hr : Rows X.K H kvs xs) (hd : h'.DictOfH (nestedKind X.prog X.w) a (storedH xs (keyM m) b u)) (hs : Heap.SameBut a s.heap h') :
    ∃ H', Inv X pins σ H' { s with heap := h', toks := t' } ∧ ND X H' a (putP kvs m c) ∧ ∃ o, Soft o ∧ H' = upd H a o := by
  obtain ⟨o, es, ep, ho, hx, hdat, he, _, _⟩ := hd
  obtain ⟨o0, e0, s0⟩ := h.there
  obtain ⟨_, _, _, e1, _, _, hn, _, hS⟩ := id h
  have mu : Mut (H a) := by rw [e1]; exact True.intro
  refine ⟨upd H a (RawD a es ep), d_write I mu hs ⟨o, ho⟩ (rawD_ok ⟨o, ho, hx, hdat⟩), ⟨es, ep, storedH xs (keyM m) b u, upd_same, he, (Rows.put hb ru hr).keep (keep_soft e0 s0), nodup_put hn, ?_, hS⟩, _, rawD_soft, rfl⟩
  have := len_put kvs m c
  omega
/-- d[k] = v -/
theorem nd_setItem {Q : Unit → Shared → Prop} {u : Value} (hu : A.units + 64 < cLine) (I : Inv X pins σ H s) (h : ND X H a kvs) (hl : kvs.length < sizeLine) (hb : MK X.K H b m) (ru : RelV (.int c) u)
    (q : ∀ H' s', Inv X pins σ H' s' → ND X H' a (putP kvs m c) → (∃ o, Soft o ∧ H' = upd H a o) → Q () s') : wpAny (model X.prog X.w) A (setItem (.ref a) (.ref b) u) Q E s := by
  obtain ⟨es, ep, xs, _, _, _, hr, hd⟩ := h.raw I
  refine wpAny_setItem_heap (hsz := by rw [← hr.len]; exact h.size) (room_in1 hu) (key_is I hb.dp) hd fun h' hd' hs => ?_
  obtain ⟨H', I', n', o'⟩ := nd_put (t' := s.toks + (nestedKind X.prog X.w).draws (keyM m)) I h hl hb ru hr hd' hs
  exact q H' _ I' n' o'
theorem nd_dictSet {Q : Unit → Shared → Prop} {u : Value} (hu : A.units + 64 < cLine) (I : Inv X pins σ H s) (h : ND X H a kvs) (hl : kvs.length < sizeLine) (hb : MK X.K H b m) (ru : RelV (.int c) u)
    (q : ∀ H' s', Inv X pins σ H' s' → ND X H' a (putP kvs m c) → (∃ o, Soft o ∧ H' = upd H a o) → Q () s') : wpAny (model X.prog X.w) A (dictSet a (.ref b) u) Q E s := by
  obtain ⟨es, ep, xs, _, _, _, hr, hd⟩ := h.raw I
  refine wpAny_dictSet_heap (hsz := by rw [← hr.len]; exact h.size) (room_at hu) (key_is I hb.dp) hd fun h' hd' hs => ?_
  obtain ⟨H', I', n', o'⟩ := nd_put (t' := s.toks + (nestedKind X.prog X.w).draws (keyM m)) I h hl hb ru hr hd' hs
  exact q H' _ I' n' o'
end
section
variable (K : PySem.W.Frag) (P : Program) (w : World)
/-- d[k] -/
def tNDGet (td ty : TE) : TE := fun σ H Q => td σ H fun x H1 => ty σ H1 fun y H2 => ∃ a b kvs m c, x = .ref a ∧ y = .ref b ∧ NDAt K P w H2 a kvs ∧ MK K H2 b m ∧ getP kvs m = some c ∧ Q (.int c) H2
/-- d.get(k, x) -/
def tNDGetOr (td ty tx : TE) : TE := fun σ H Q => td σ H fun x H1 => (∃ a kvs, x = .ref a ∧ NDAt K P w H1 a kvs) ∧ ty σ H1 fun y H2 => tx σ H2 fun z H3 =>
  ∃ a b kvs m d0, x = .ref a ∧ y = .ref b ∧ z = .int d0 ∧ NDAt K P w H3 a kvs ∧ MK K H3 b m ∧ Q (.int ((getP kvs m).getD d0)) H3
/-- d[k] = v -/
def sNDPut (td ty tv : TE) : TS := fun D σ H => tv σ H fun v H1 => td σ H1 fun x H2 => ty σ H2 fun y H3 => ∃ a b kvs m c, x = .ref a ∧ y = .ref b ∧ v = .int c ∧ NDAt K P w H3 a kvs ∧ kvs.length < sizeLine ∧ MK K H3 b m ∧
  ∀ o, Soft o → NDAt K P w (upd H3 a o) a (putP kvs m c) → D.nx σ (upd H3 a o)
/-- {} -/
def tNDNew : TE := fun _ H Q => ∀ p o, H p = none → Soft o → NDAt K P w (upd H p o) p [] → Q (.ref p) (upd H p o)
end
section
variable {X : Cx} {o i e f value : Expr} {pos pos' tpos apos cpos : Pos} {td ty tv tx : TE}
theorem pe_ndget (hu : X.A.units + 64 < cLine) (ho : PE X o td) (hi : PE X i ty) (hs : NoSl i) : PE X (.Subscript o i pos) (tNDGet X.K X.prog X.w td ty) := by
  refine ⟨fun pins s σ H Q I h => ?_⟩
  refine subD_of PySem.F.slot_dict_getitem.lookup hs (thn (ho.run pins s σ H _ I h) fun u s1 ⟨x, H1, I1, rx, q1⟩ => thn (hi.run pins s1 σ H1 _ I1 q1) fun iv s2 ⟨y, H2, I2, ry, a, b, kvs, m, c, ex, ey, hd, hb, hg, q2⟩ => ?_)
  subst ex ey
  obtain rfl : u = Value.ref a := rx
  obtain rfl : iv = Value.ref b := ry
  obtain ⟨es, ep, xs, _, hr, _⟩ := hd.raw I2
  exact ⟨hr.typeIs, nd_getItem hu I2 hd hb hg fun w' s3 I3 rw' => ⟨_, H2, I3, rw', q2⟩⟩
theorem pe_ndgetOr (hu : X.A.units + 64 < cLine) (ho : PE X o td) (he : PE X e ty) (hf : PE X f tx) (m : M2 X o "get" apos e f cpos) : PE X (.Call (.Attribute o "get" apos) [e, f] [] cpos) (tNDGetOr X.K X.prog X.w td ty tx) := by
  refine ⟨fun pins s σ H Q I h => ?_⟩
  refine wpAny_Call_method m.base m.few m.line PySem.F.plainAttrs_dict PySem.F.slot_dict_get PySem.F.type_dict_get (thn (ho.run pins s σ H _ I h) fun u s1 ⟨x, H1, I1, rx, ⟨a, kvs, ex, d⟩, q1⟩ => ?_)
  subst ex
  obtain rfl : u = Value.ref a := rx
  obtain ⟨es, ep, xs, _, hr, _⟩ := d.raw I1
  obtain ⟨ob, h1, h2, _⟩ := id hr
  refine ⟨hr.typeIs, fun b q => by cases q; exact ⟨ob, h1, h2.2.1⟩, ?_⟩
  rw [m.trees]
  refine Calls.callWith_builtin rfl (Calls.evalArgs_plain (Calls.spliced_cons (thn (he.run pins s1 σ H1 _ I1 q1) fun iv s2 ⟨y, H2, I2, ry, q2⟩ =>
    Calls.spliced_cons (thn (hf.run pins s2 σ H2 _ I2 q2) fun fv s3 ⟨z, H3, I3, rz, a', b', kvs', m', d0, e1, e2, e3, hd, hb, q3⟩ => Calls.spliced_nil ?_))))
  cases e1
  subst e2 e3
  obtain rfl : iv = Value.ref b' := ry
  exact nd_getOr hu I3 hd hb rz fun w' s4 I4 rw' => ⟨_, H3, I4, rw', q3⟩
theorem ps_ndput (hu : X.A.units + 64 < cLine) (ho : PE X o td) (hi : PE X i ty) (hv : PE X value tv) (hs : swapsWith value (some (.Subscript o i pos')) pos.line X.env = pure false) :
    PS X (.Assign [.Subscript o i pos'] value pos) (sNDPut X.K X.prog X.w td ty tv) := by
  refine ⟨fun pins s σ H D I h => ?_⟩
  refine wpAny_Assign_Subscript (thn (hv.run pins s σ H _ I h) fun r s1 ⟨v, H1, I1, rv, q1⟩ => thn (ho.run pins s1 σ H1 _ I1 q1) fun u s2 ⟨x, H2, I2, rx, q2⟩ => thn (hi.run pins s2 σ H2 _ I2 q2) fun iv s3 ⟨y, H3, I3, ry, a, b, kvs, m, c, ex, ey, ev, hd, hl, hb, q3⟩ => ?_) hs
  subst ex ey ev
  obtain rfl : u = Value.ref a := rx
  obtain rfl : iv = Value.ref b := ry
  refine nd_setItem hu I3 hd hl hb rv fun H4 s4 I4 n4 ⟨o4, so, e4⟩ => ⟨σ, H4, I4, ?_⟩
  subst e4
  exact q3 o4 so n4
theorem nd_fresh {pins : List (Addr × Obj)} {σ : L2.St} {H : Hp} {s : Shared} (I : Inv X pins σ H s) : Inv X pins σ (upd H s.heap.objs.size (RawD s.heap.objs.size #[] 0)) { s with heap := s.heap.push { cls := .type "dict", data := .dict #[] } } ∧
    ND X (upd H s.heap.objs.size (RawD s.heap.objs.size #[] 0)) s.heap.objs.size [] := by
  refine ⟨I.laid (a := s.heap.objs.size) (t' := s.toks) (fun _ _ q => Heap.get?_push_of_some _ q) (Nat.le_refl _) (rawD_ok ⟨_, Heap.get?_push_size _ rfl, ⟨rfl, rfl, rfl⟩, rfl⟩), #[], 0, [], upd_same, rfl, .nil, .nil, Nat.zero_le _, ?_⟩
  exact beq_eq_false_iff_ne.mpr (Ne.symm (Nat.ne_of_lt I.big))
theorem pe_ndnew : PE X (.Dict [] [] pos) (tNDNew X.K X.prog X.w) := ⟨fun pins s σ H Q I h => by
  obtain ⟨I1, n1⟩ := nd_fresh I
  exact wpAny_Dict_empty ⟨.ref s.heap.objs.size, _, I1, rfl, h _ _ (I.hok.fresh (Nat.le_refl _)) rawD_soft n1⟩⟩
/-- {k: v} -/
def tNDOne (K : PySem.W.Frag) (P : Program) (w : World) (tk tv : TE) : TE := fun σ H Q => ∀ p o, H p = none → Soft o → NDAt K P w (upd H p o) p [] → tk σ (upd H p o) fun x H1 => tv σ H1 fun y H2 => ∃ b m c, x = .ref b ∧ y = .int c ∧ NDAt K P w H2 p [] ∧ MK K H2 b m ∧
  ∀ o', Soft o' → NDAt K P w (upd H2 p o') p [(m, c)] → Q (.ref p) (upd H2 p o')
theorem pe_ndone {k v : Expr} (hu : X.A.units + 64 < cLine) (hk : PE X k ty) (hv : PE X v tv)
    (hsh : (evalEachOpt [some k] X.env).zip ((evalEach [v] X.env).map fun v => do let x ← v; standAt pos; pure x) = [(eval k X.env, do let x ← eval v X.env; standAt pos; pure x)].map fun p => (some p.1, p.2) := by rfl) :
    PE X (.Dict [some k] [v] pos) (tNDOne X.K X.prog X.w ty tv) := by
  refine ⟨fun pins s σ H Q I h => ?_⟩
  obtain ⟨I1, n1⟩ := nd_fresh I
  have hn := I.hok.fresh (Nat.le_refl s.heap.objs.size)
  rw [arm_eval_Dict, hsh, dictDisplay_pairs _ (by simp) (by simp)]
  refine wpAny_bind (wpAny_standAt (wpAny_bind (wpAny_subDictH (knd := nestedKind X.prog X.w) (Q := fun d s' => wpAny _ _ (pure (Value.ref d)) _ _ s') (room_at hu) (by simp) ?_)))
  refine evalPairs_cons (thn (hk.run pins _ σ _ _ I1 (h _ _ hn rawD_soft n1)) fun u s1 ⟨x, H1, I2, rx, q1⟩ => wpAny_bind (thn (hv.run pins s1 σ H1 _ I2 q1) fun vv s2 ⟨y, H2, I3, ry, b, m, c, ex, ey, n3, hb, q2⟩ => wpAny_bind (wpAny_standAt (wpAny_pure ?_))))
  refine evalPairs_nil ?_
  subst ex ey
  obtain rfl : u = Value.ref b := rx
  obtain ⟨es, ep, xs, e1, hr, _, hrow, hd⟩ := n3.raw I3
  cases hrow
  refine ⟨[(keyM m, b, vv)], ⟨rfl, rfl, key_is I3 hb.dp, True.intro⟩, hd, fun h' tk hd' hs => ?_⟩
  obtain ⟨H', I', n', o', so, eo⟩ := nd_put (t' := tk) I3 n3 (by show 0 < sizeLine; decide) hb ry (.nil : Rows X.K H2 [] []) hd' hs
  subst eo
  exact wpAny_pure ⟨.ref s.heap.objs.size, _, I', rfl, q2 o' so n'⟩
end
end K03
set_option Elab.async false
set_option linter.all false
set_option maxRecDepth 100000
set_option maxHeartbeats 4000000
/-! dicts from monomials to integers: walked, listed, made of pairs, made by a comprehension -/
namespace K03
open PySem PySem.Spec PyProof.Rows L2

/-- the keys of the very dict (a, es, ep), at bs -/
def Itn (a : Addr) (es : Array DictEntry) (ep : Nat) (bs : List Addr) : It :=
  ⟨fun i H => i < bs.length ∧ H a = some (RawD a es ep), fun i H x H' => H' = H ∧ ∃ b, bs[i]? = some b ∧ x = .ref b, fun i H => bs.length ≤ i ∧ H a = some (RawD a es ep)⟩
def KeyRow (es : Array DictEntry) (bs : List Addr) : Prop := es.size = bs.length ∧ ∀ i (hi : i < es.size) b, bs[i]? = some b → es[i].key = .ref b
theorem turn_nd {P : Program} {w : World} {K : PySem.W.Frag} {tg : Expr} {a : Addr} {es : Array DictEntry} {ep : Nat} {bs : List Addr} (it : Addr) (hk : KeyRow es bs) :
    Turn P w K tg (Itn a es ep bs) [it] it (fun i h => h.IsKeyIter it a i es.size ep) where
  mem := by simp
  obj := fun i h st b hb => by
    have e : b = it := by simpa using hb
    subst e
    obtain ⟨oi, e, c, dd⟩ := st
    exact ⟨oi, e, fun v z => by rw [dd] at z; cases z⟩
  keep := fun i h h' st k => st.at fun oi e => k it (by simp) oi e
  item := by
    intro X hP hw hK hc i pins s σ H E I hf st hg
    subst hP hw hK
    obtain ⟨hi, hd⟩ := hg
    obtain ⟨f0, f1, f2, f3, f4, f5⟩ := hf it (by simp)
    obtain ⟨hr, _, _⟩ := (show ObjOk X.prog X.w H s.heap a (RawD a es ep) from I.hok a _ hd)
    have hi' : i < es.size := by rw [hk.1]; exact hi
    have hb : bs[i]? = some bs[i] := List.getElem?_eq_getElem hi
    refine wpAny_pyNext_keys_item_raw st hr hi' fun h' st' sb => ?_
    have I1 : Inv X pins σ H { s with heap := h' } := I.turned (t' := s.toks) (fun b ob hb e => (sb.2 b hb).trans e) f0 f1 f3 f4 f5
    obtain ⟨oi, e, c, dd⟩ := id st'
    refine ⟨es[i].key, rfl, go_of (s := { s with heap := h' }) e c dd (by decide) ⟨.ref bs[i], H, I1, hk.2 i hi' _ hb, ⟨rfl, _, hb, rfl⟩, st', fun b hb => (hf b hb).1⟩⟩
  done := by
    intro X hP hw hK hc i pins s σ H E I hf st hg
    subst hP hw hK
    obtain ⟨hi, hd⟩ := hg
    obtain ⟨f0, f1, f2, f3, f4, f5⟩ := hf it (by simp)
    obtain ⟨hr, _, _⟩ := (show ObjOk X.prog X.w H s.heap a (RawD a es ep) from I.hok a _ hd)
    exact wpAny_pyNext_keys_end_raw (I.ok.hd hc) st hr (by rw [hk.1]; exact hi) fun h' eb => ⟨rfl, I.turned (t' := s.toks) (fun b ob hb e => eb b ob hb e) f0 f1 f3 f4 f5⟩
  self := fun A i s Q E st h => wpAny_pyIter_keyiter st h
/-- where the keys of the terms stand -/
def KeysAt (K : PySem.W.Frag) (H : Hp) (kvs : Poly) (bs : List Addr) : Prop := bs.length = kvs.length ∧ ∀ (i : Nat) (t : Mono × Int) (b : Addr), kvs[i]? = some t → bs[i]? = some b → MK K H b t.1
theorem KeysAt.keep {K : PySem.W.Frag} {H H' : Hp} {kvs : Poly} {bs : List Addr} (h : KeysAt K H kvs bs) (e : Keep H H') : KeysAt K H' kvs bs := ⟨h.1, fun i t b h1 h2 => (h.2 i t b h1 h2).keep e⟩
theorem Rows.keysAt {K : PySem.W.Frag} {H : Hp} : ∀ {kvs : Poly} {xs : List (NestedKey × Addr × Value)}, Rows K H kvs xs → KeysAt K H kvs (xs.map fun x => x.2.1)
  | [], [], _ => ⟨rfl, fun i t b h _ => by simp at h⟩
  | [], _ :: _, h => by cases h
  | _ :: _, [], h => by cases h
  | t :: r, x :: xs, h => by
    cases h with
    | cons h1 h2 =>
      obtain ⟨l, a⟩ := Rows.keysAt h2
      refine ⟨by simpa using l, fun i t' b e1 e2 => ?_⟩
      cases i with
      | zero => simp at e1 e2; subst e1 e2; exact h1.2.1
      | succ i => exact a i t' b (by simpa using e1) (by simpa using e2)
theorem keyRow_of {P : Program} {w : World} {es : Array DictEntry} {xs : List (NestedKey × Addr × Value)} (he : es.toList = xs.map (entryOfKey (nestedKind P w))) : KeyRow es (xs.map fun x => x.2.1) := by
  refine ⟨by rw [List.length_map]; exact size_of_entries he, fun i hi b hb => ?_⟩
  have e := entry_at he i
  rw [Array.getElem?_eq_getElem hi] at e
  rw [List.getElem?_map] at hb
  cases q : xs[i]? with
  | none => rw [q] at hb; cases hb
  | some x =>
    rw [q] at hb e
    have e' : es[i] = entryOfKey (nestedKind P w) x := Option.some.inj e
    rw [e']
    have hb' : x.2.1 = b := Option.some.inj hb
    rw [← hb']
    rfl
def iND (K : PySem.W.Frag) (P : Program) (w : World) (td : TE) : TI := fun σ H R => td σ H fun x H1 => ∃ a kvs, x = .ref a ∧ NDAt K P w H1 a kvs ∧ ∀ es ep bs, H1 a = some (RawD a es ep) → KeysAt K H1 kvs bs → R (Itn a es ep bs) H1
section
variable {X : Cx} {tg e : Expr} {td : TE}
theorem pi_nd (he : PE X e td) : PI X tg e (iND X.K X.prog X.w td) := by
  refine ⟨fun pins s σ H R I h => ?_⟩
  refine thn (he.run pins s σ H _ I h) fun u s1 ⟨x, H1, I1, rx, a, kvs, ex, hd, q⟩ => ?_
  subst ex
  obtain rfl : u = Value.ref a := rx
  obtain ⟨_, _, _, _, _, _, _, _, hS⟩ := id hd
  obtain ⟨es, ep, xs, e1, hr, he2, hrow, _⟩ := hd.raw I1
  refine wpAny_pyIter_dict_raw hS hr (pi_one (tk := s1.toks) I1 _ (turn_nd (bs := xs.map fun x => x.2.1) (a := a) (ep := ep) _ (keyRow_of he2)) ⟨_, Heap.get?_push_size _ rfl, rfl, rfl⟩ (q es ep _ e1 hrow.keysAt))
end
/-- a loop over such a dict that leaves it as it is -/
theorem for_nd {K : PySem.W.Frag} {a : Addr} {kvs : Poly} {es : Array DictEntry} {ep : Nat} {bs : List Addr} {g : TG} {tb : TS} {D : Ends} {σ : L2.St} {H1 : Hp} (hk : KeysAt K H1 kvs bs) (Pv : Nat → L2.St → Hp → Prop) (h0 : Pv 0 σ H1)
    (hl : ∀ i σ H, Pv i σ H → H a = some (RawD a es ep) ∧ Keep H1 H)
    (hs : ∀ i t b σ H, kvs[i]? = some t → bs[i]? = some b → MK K H b t.1 → Pv i σ H → g (.ref b) σ H fun σ2 H2 => tb { D with nx := Pv (i + 1), ct := Pv (i + 1), bk := D.nx } σ2 H2) (hd : ∀ σ H, Pv kvs.length σ H → D.nx σ H) :
    ∃ W : Nat → Nat → L2.St → Hp → Prop, (∃ m, W 0 m σ H1) ∧ ∀ i m σ H, W i m σ H →
      ((Itn a es ep bs).stop i H ∧ D.nx σ H) ∨ ((Itn a es ep bs).go i H ∧ ∃ N : L2.St → Hp → Prop, (∀ σ' H', N σ' H' → ∃ m', m' < m ∧ W (i + 1) m' σ' H') ∧ ∀ x H', (Itn a es ep bs).yld i H x H' → g x σ H' fun σ2 H2 => tb { D with nx := N, ct := N, bk := D.nx } σ2 H2) := by
  refine ⟨fun i m σ H => m = bs.length - i ∧ i ≤ bs.length ∧ Pv i σ H, ⟨bs.length, by simp, Nat.zero_le _, h0⟩, ?_⟩
  rintro i m σ H ⟨rfl, hi, p⟩
  obtain ⟨ha, kp⟩ := hl i σ H p
  by_cases hlt : i < bs.length
  · refine .inr ⟨⟨hlt, ha⟩, Pv (i + 1), fun σ' H' p' => ⟨bs.length - (i + 1), by omega, rfl, hlt, p'⟩, fun x H' y => ?_⟩
    obtain ⟨e, b, hb, ex⟩ := y
    subst e ex
    obtain ⟨t, ht⟩ : ∃ t, kvs[i]? = some t := ⟨_, List.getElem?_eq_getElem (show i < List.length kvs by rw [← hk.1]; exact hlt)⟩
    exact hs i t b σ _ ht hb ((hk.2 i t b ht hb).keep kp) p
  · have e : i = bs.length := by omega
    subst e
    rw [hk.1] at p
    exact .inl ⟨⟨Nat.le_refl _, ha⟩, hd σ H p⟩
/-- a list comprehension over such a dict -/
theorem lc_nd {K : PySem.W.Frag} {a : Addr} {kvs : Poly} {es : Array DictEntry} {ep : Nat} {bs : List Addr} {g : TG} {tt : TT} {te : TE} {vs : List Nat} {σ : L2.St} {H1 : Hp} {D : Addr} {Qd : Hp → Prop} (hk : KeysAt K H1 kvs bs) (Pv : Nat → Hp → Prop) (h0 : Pv 0 (upd H1 D (.lst [])))
    (hl : ∀ i H, Pv i H → H a = some (RawD a es ep) ∧ Keep H1 H)
    (hs : ∀ i t b H, kvs[i]? = some t → bs[i]? = some b → MK K H b t.1 → Pv i H → g (.ref b) (wipe σ vs) H fun σ2 H2 => wipe σ2 vs = wipe σ vs ∧ tt σ2 H2 fun b H3 =>
      if b = true then te σ2 H3 fun y H4 => ∃ acc, H4 D = some (.lst acc) ∧ acc.length < sizeLine ∧ Pv (i + 1) (upd H4 D (.lst (acc ++ [y]))) else Pv (i + 1) H3) (hd : ∀ H, Pv kvs.length H → Qd H) :
    ∃ W : Nat → Nat → Hp → Prop, (∃ m, W 0 m (upd H1 D (.lst []))) ∧ ∀ i m H, W i m H →
      ((Itn a es ep bs).stop i H ∧ Qd H) ∨ ((Itn a es ep bs).go i H ∧ ∃ Nx : Hp → Prop, (∀ H', Nx H' → ∃ m', m' < m ∧ W (i + 1) m' H') ∧ ∀ x H', (Itn a es ep bs).yld i H x H' → g x (wipe σ vs) H' fun σ2 H2 => wipe σ2 vs = wipe σ vs ∧ tt σ2 H2 fun b H3 =>
        if b = true then te σ2 H3 fun y H4 => ∃ acc, H4 D = some (.lst acc) ∧ acc.length < sizeLine ∧ Nx (upd H4 D (.lst (acc ++ [y]))) else Nx H3) := by
  refine ⟨fun i m H => m = bs.length - i ∧ i ≤ bs.length ∧ Pv i H, ⟨bs.length, by simp, Nat.zero_le _, h0⟩, ?_⟩
  rintro i m H ⟨rfl, hi, p⟩
  obtain ⟨ha, kp⟩ := hl i H p
  by_cases hlt : i < bs.length
  · refine .inr ⟨⟨hlt, ha⟩, Pv (i + 1), fun H' p' => ⟨bs.length - (i + 1), by omega, rfl, hlt, p'⟩, fun x H' y => ?_⟩
    obtain ⟨e, b, hb, ex⟩ := y
    subst e ex
    obtain ⟨t, ht⟩ : ∃ t, kvs[i]? = some t := ⟨_, List.getElem?_eq_getElem (show i < List.length kvs by rw [← hk.1]; exact hlt)⟩
    exact hs i t b _ ht hb ((hk.2 i t b ht hb).keep kp) p
  · have e : i = bs.length := by omega
    subst e
    rw [hk.1] at p
    exact .inl ⟨⟨Nat.le_refl _, ha⟩, hd H p⟩

/-! ### list(d) -/
section
variable {X : Cx}
theorem vals_refs' : ∀ bs : List Addr, Vals (bs.map V.ref) (bs.map Value.ref)
  | [] => .nil
  | b :: bs => .cons rfl (vals_refs' bs)
def rListND (K : PySem.W.Frag) (P : Program) (w : World) : List V → Hp → VK → Prop := fun xs H Q => ∃ a kvs, xs = [.ref a] ∧ NDAt K P w H a kvs ∧ ∀ p bs, H p = none → KeysAt K H kvs bs → Q (.ref p) (upd H p (.lst (bs.map V.ref)))
theorem call_list_nd (hc : X.calm = true) : CallR X (.type "list") (rListND X.K X.prog X.w) := by
  intro pins s σ H xs us Q I r h
  obtain ⟨a, kvs, rfl, hd, q⟩ := h
  obtain ⟨u, rfl, ru⟩ := vals1 r
  obtain rfl : u = Value.ref a := ru
  obtain ⟨_, _, _, _, _, _, _, hz, hS⟩ := id hd
  obtain ⟨es, ep, ys, e1, hr, he2, hrow, _⟩ := hd.raw I
  obtain ⟨k1, k2⟩ := keyRow_of he2
  have hl : (ys.map fun x => x.2.1).length = kvs.length := hrow.keysAt.1
  refine PySem.W.kdl_call (KdlSrc.rawDict hS) (I.ok.hd hc) hr (by rw [k1, hl]; exact hz) fun h' tk acc c hk hS' hacc => ?_
  have hv : Vals ((ys.map fun x => x.2.1).map V.ref) acc.toList := by
    have e : acc.toList = (ys.map fun x => x.2.1).map Value.ref := by
      refine List.ext_getElem? fun j => ?_
      rw [Array.getElem?_toList, List.getElem?_map]
      by_cases hj : j < acc.size
      · rw [Array.getElem?_eq_getElem hj]
        obtain ⟨hi, e⟩ := hacc.2 j acc[j] (Array.getElem?_eq_getElem hj)
        have hb : (ys.map fun x => x.2.1)[j]? = some ((ys.map fun x => x.2.1)[j]'(by rw [← k1]; exact hi)) := List.getElem?_eq_getElem _
        rw [hb, e, k2 j hi _ hb]
        rfl
      · rw [Array.getElem?_eq_none (by omega), List.getElem?_eq_none (by rw [← k1, ← hacc.1]; omega)]
        rfl
    rw [e]
    exact vals_refs' _
  refine ⟨.ref s.heap.objs.size, _, I.laid (a := s.heap.objs.size) (o := .lst ((ys.map fun x => x.2.1).map V.ref)) (t' := tk) hk (Nat.le_refl _) ⟨?_, acc.toList, c, hv, by simpa using hS'⟩, rfl, q _ _ (I.hok.fresh (Nat.le_refl _)) hrow.keysAt⟩
  rw [List.length_map, hl]
  exact hz
end

/-! ### dict(terms) -/
/-- the dict of terms, one by one -/
def ofTerms (p : Poly) : Poly := p.foldl (fun acc t => putP acc t.1 t.2) []
abbrev TermsAt (K : PySem.W.Frag) (H : Hp) : Poly → List V → Prop := Paired fun t x => ∃ c b, x = .ref c ∧ SqT K H c [.ref b, .int t.2] ∧ MK K H b t.1
/-- a polynomial as frozen hands it back -/
def FzAt (K : PySem.W.Frag) (H : Hp) (v : V) (p : Poly) : Prop := ∃ a xs, v = .ref a ∧ Plain H a xs ∧ TermsAt K H p xs
theorem FzAt.keep {K : PySem.W.Frag} {H H' : Hp} {v : V} {p : Poly} (h : FzAt K H v p) (e : Keep H H') : FzAt K H' v p := by
  obtain ⟨a, xs, h1, h2, h3⟩ := h
  exact ⟨a, xs, h1, h2.keep e, Paired.mapP h3 fun t x ⟨c, b, e1, e2, e3⟩ => ⟨c, b, e1, sqT_keep e e2, e3.keep e⟩⟩
section
variable {X : Cx}
/-- the values of a tuple of terms: their tuples, keys, numbers -/
theorem terms_read {pins : List (Addr × Obj)} {σ : L2.St} {H : Hp} {s : Shared} (I : Inv X pins σ H s) : ∀ {p : Poly} {vs : List V} {us : List Value}, TermsAt X.K H p vs → Vals vs us →
    ∃ rows : List (Addr × NestedKey × Addr × Value), us = rows.map (fun r => Value.ref r.1) ∧ (∀ r ∈ rows, PairAt s.heap r.1 (.ref r.2.2.1) r.2.2.2) ∧ Rows X.K H p (rows.map (·.2))
  | [], _, _, h, r => by
    cases h
    cases r
    exact ⟨[], rfl, (fun _ hr => by cases hr), Paired.nil⟩
  | t :: p, _, _, h, r => by
    cases h with
    | cons h1 h2 =>
      cases r with
      | cons r1 r2 =>
        obtain ⟨rows, e1, e2, e3⟩ := terms_read I h2 r2
        obtain ⟨c, b, rfl, hs, hm⟩ := h1
        obtain rfl := (show _ = Value.ref c from r1)
        obtain ⟨its, rv, ht, _⟩ := I.tuple hs
        obtain ⟨u1, u2, rfl, q1, q2⟩ := vals2 rv
        obtain rfl : u1 = Value.ref b := q1
        refine ⟨(c, keyM t.1, b, u2) :: rows, by rw [e1]; rfl, fun r hr => ?_, Paired.cons ⟨rfl, hm, q2⟩ e3⟩
        rcases List.mem_cons.mp hr with e | e
        · subst e; exact .inl ht
        · exact e2 r e
theorem rows_foldl {K : PySem.W.Frag} {H : Hp} : ∀ {p : Poly} {xs : List (NestedKey × Addr × Value)} {acc : Poly} {ys : List (NestedKey × Addr × Value)}, Rows K H p xs → Rows K H acc ys → Rows K H (p.foldl (fun acc t => putP acc t.1 t.2) acc) (storedAllH ys xs)
  | [], [], _, _, _, h => h
  | [], _ :: _, _, _, h, _ => by cases h
  | _ :: _, [], _, _, h, _ => by cases h
  | t :: p, x :: xs, acc, ys, h, h' => by
    cases h with
    | cons h1 h2 =>
      obtain ⟨e1, e2, e3⟩ := h1
      show Rows K H (p.foldl _ (putP acc t.1 t.2)) (storedAllH (storedH ys x.1 x.2.1 x.2.2) xs)
      refine rows_foldl h2 ?_
      rw [e1]
      exact Rows.put e2 e3 h'
theorem foldl_nodup : ∀ (p acc : Poly), (keys acc).Nodup → (keys (p.foldl (fun acc t => putP acc t.1 t.2) acc)).Nodup
  | [], _, h => h
  | t :: p, acc, h => foldl_nodup p _ (nodup_put h)
theorem foldl_len : ∀ (p acc : Poly), (p.foldl (fun acc t => putP acc t.1 t.2) acc).length ≤ acc.length + p.length
  | [], acc => Nat.le_refl _
  | t :: p, acc => by
    have h1 := foldl_len p (putP acc t.1 t.2)
    have h2 := len_put acc t.1 t.2
    show (p.foldl _ (putP acc t.1 t.2)).length ≤ acc.length + (p.length + 1)
    omega
def rDictND (K : PySem.W.Frag) (P : Program) (w : World) : List V → Hp → VK → Prop := fun xs H Q => ∃ v p, xs = [v] ∧ FzAt K H v p ∧ ∀ a o, H a = none → Soft o → NDAt K P w (upd H a o) a (ofTerms p) → Q (.ref a) (upd H a o)
theorem call_dict_nd (hc : X.calm = true) (hu : X.A.units + 64 < cLine) : CallR X (.type "dict") (rDictND X.K X.prog X.w) := by
  intro pins s σ H xs us Q I r h
  obtain ⟨v, p, rfl, ⟨a, vs, rfl, hpl, ha⟩, q⟩ := h
  obtain ⟨u, rfl, ru⟩ := vals1 r
  obtain rfl : u = Value.ref a := ru
  obtain ⟨o, ho, hdn⟩ := hpl
  obtain ⟨hg, hz, its, rv, ⟨o', ho', hcl, n, hdat⟩⟩ := (show ObjOk X.prog X.w H s.heap a (.frz o (.tup vs)) from I.hok a _ ho)
  rw [hg] at ho'
  cases ho'
  obtain ⟨rows, e1, e2, e3⟩ := terms_read I ha rv
  have hpl : p.length = rows.length := by rw [e3.len, List.length_map]
  have hvl : vs.length = rows.length := by rw [rv.length, e1, List.length_map]
  let ps : List (Value × Value) := rows.map fun r => (Value.ref r.2.2.1, r.2.2.2)
  have hps : ps.length = rows.length := List.length_map _
  have items : PairItems s.heap its.toArray (fun j => ((rows[j]?).map (·.1)).getD 0) ps := by
    refine ⟨by rw [hps, List.size_toArray, e1, List.length_map], fun j k v hj => ?_⟩
    have hj' : (rows.map fun r => (Value.ref r.2.2.1, r.2.2.2))[j]? = some (k, v) := hj
    rw [List.getElem?_map] at hj'
    cases q : rows[j]? with
    | none => rw [q] at hj'; cases hj'
    | some r =>
      rw [q] at hj'
      have e : (Value.ref r.2.2.1, r.2.2.2) = (k, v) := Option.some.inj hj'
      injection e with ek ev
      subst ek ev
      have ej : ((rows[j]?).map (·.1)).getD 0 = r.1 := by rw [q]; rfl
      show its.toArray[j]? = some (.ref (((rows[j]?).map (·.1)).getD 0)) ∧ PairAt s.heap (((rows[j]?).map (·.1)).getD 0) _ _
      rw [ej]
      refine ⟨?_, e2 r (List.mem_of_getElem? q)⟩
      rw [e1, List.getElem?_toArray, List.getElem?_map, q]
      rfl
  refine call_dict_pairsH (knd := nestedKind X.prog X.w) (ps := rows.map (·.2)) (PairArg.tuple a its.toArray (fun j => ((rows[j]?).map (·.1)).getD 0) ps) (I.ok.hd hc) (room_in2 hu) ⟨⟨o, n, hg, hcl, hdn, hdat⟩, items⟩ ⟨by rw [List.length_map, hps], fun i key v hr => ?_⟩ ?_ (by rw [hps, ← hvl]; exact hz) fun h' tk hd' hk => ?_
  · have hj' : (rows.map fun r => (Value.ref r.2.2.1, r.2.2.2))[i]? = some (key, v) := hr
    rw [List.getElem?_map] at hj'
    cases q : rows[i]? with
    | none => rw [q] at hj'; cases hj'
    | some r =>
      rw [q] at hj'
      have e : (Value.ref r.2.2.1, r.2.2.2) = (key, v) := Option.some.inj hj'
      injection e with ek ev
      subst ek ev
      exact ⟨r.2.1, r.2.2.1, by rw [List.getElem?_map, q]; rfl, rfl⟩
  · intro h2 hk x hx
    have z := e3.is I x hx
    exact nestedKind_stays.stays (fun b ob _ _ e _ => hk b ob (Nat.ne_of_lt (Heap.lt_size e)) (by simp) e) z
  · obtain ⟨o2, es, ep, g1, g2, g3, g4, _, _⟩ := hd'
    have hn := I.hok.fresh (Nat.le_refl s.heap.objs.size)
    have I1 : Inv X pins σ (upd H s.heap.objs.size (RawD s.heap.objs.size es ep)) { s with heap := h', toks := tk } := I.laid (fun b ob e => hk b ob (by simp) e) (Nat.le_refl _) (rawD_ok ⟨o2, g1, g2, g3⟩)
    refine ⟨.ref s.heap.objs.size, _, I1, rfl, q _ _ hn rawD_soft ⟨es, ep, _, upd_same, g4, (rows_foldl e3 (Paired.nil : Rows X.K H [] [])).keep (keep_new hn), foldl_nodup p [] .nil, ?_, ?_⟩⟩
    · have := foldl_len p []
      show (ofTerms p).length ≤ _
      unfold ofTerms
      rw [List.length_nil] at this
      omega
    · exact beq_eq_false_iff_ne.mpr (Ne.symm (Nat.ne_of_lt I.big))
end
end K03
set_option Elab.async false
set_option linter.all false
set_option maxRecDepth 100000
set_option maxHeartbeats 4000000
/-! dict comprehensions: one clause with monomials as keys; two clauses with texts as keys -/
namespace K03
open PySem PySem.Spec PyProof.Rows L2
/-- what a new dict is, and how a store into it goes -/
structure Fill (X : Cx) where
  ob : Addr → HO
  st : Addr → V → V → Hp → (Hp → Prop) → Prop
  new : ∀ (H : Hp) (h : Heap), sysModules < h.objs.size → ObjOk X.prog X.w H (h.push { cls := .type "dict", data := .dict #[] }) h.objs.size (ob h.objs.size)
  set : ∀ (s0 : Shared) (H0 : Hp) (scope : Scope) (ce : Env) (fp : List Addr) (pins : List (Addr × Obj)) (s : Shared) (σ : L2.St) (H : Hp) (D : Addr) (y z : V) (u r : Value) (Nx : Hp → Prop), Inv (X.blk s0 H0 scope ce fp) pins σ H s → RelV y u → RelV z r → st D y z H Nx →
    wpAny (model X.prog X.w) X.A (dictSet D u r) (fun _ s' => ∃ H', Inv (X.blk s0 H0 scope ce fp) pins σ H' s' ∧ Nx H') (fun _ _ => False) s
section
variable {X : Cx}
/-- {k: v for target in iter if ..}: D the new dict -/
def tDcF (F : Fill X) (wi : TI) (g : TG) (tt : TT) (tk tv : TE) (vs : List Nat) : TE := fun σ H Q => wi σ H fun J H1 => ∀ D, H1 D = none → (D == sysModules) = false → ∃ W : Nat → Nat → Hp → Prop, (∃ m, W 0 m (upd H1 D (F.ob D))) ∧ ∀ i m H, W i m H →
  (J.stop i H ∧ Q (.ref D) H) ∨ (J.go i H ∧ ∃ Nx : Hp → Prop, (∀ H', Nx H' → ∃ m', m' < m ∧ W (i + 1) m' H') ∧ ∀ x H', J.yld i H x H' → g x (wipe σ vs) H' fun σ2 H2 => wipe σ2 vs = wipe σ vs ∧ tt σ2 H2 fun b H3 =>
    if b = true then tk σ2 H3 fun y H4 => tv σ2 H4 fun z H5 => F.st D y z H5 Nx else Nx H3)
section
variable {elt0 kx vx tg iter tg1 iter1 : Expr} {ifs ifs1 : List Expr} {scope : Scope} {own : List (Str × Nat)} {vs1 : List Nat} {pos pos' : Pos} {wi wi1 : TI} {g g1 : TG} {tt tt1 : TT} {tk tv : TE}
/-- what stands when a block begins: its own context, its iterator -/
theorem block_in {comp : Expr} {pins : List (Addr × Obj)} {s2 : Shared} {σ : L2.St} {H2 : Hp} {it : Addr} {fp : List Addr} {tn : Nat → Heap → Prop} {J : It} (F : Fill X) (hN : X.N.Nodup) (ok : BlkOk X.N X.env.scope scope own) (I2 : Inv X pins σ H2 s2)
    (T : Turn X.prog X.w X.K tg J fp it tn) (st2 : tn 0 s2.heap) (f2 : ∀ b ∈ fp, FpOk X pins H2 b) {R : Result → Shared → Prop}
    (go : ∀ (s3 s4 : Shared) (ce : Env) (H3 : Hp) (C : Addr) (cl : List (Str × Addr)), H3 = upd H2 s2.heap.objs.size (F.ob s2.heap.objs.size) → s3.heap = s2.heap.push { cls := .type "dict", data := .dict #[] } → ce = compEnvC scope cl C X.env → ce.locals = s3.heap.objs.size → C = s3.heap.objs.size → Inv X pins σ H3 s3 → Inv (X.blk s3 H3 scope ce fp) [] (wipe σ (own.map (·.2))) H3 s4 → tn 0 s4.heap →
      (∀ b ∈ fp, FpOk X pins H3 b) → codeAny (model X.prog X.w) X.A (.compLoop comp 0 (.ref it) (.ref s2.heap.objs.size) ce) R s4) :
    codeAny (model X.prog X.w) X.A (.compLoop comp 0 (.ref it) (.ref s2.heap.objs.size) (compEnvC scope (cellsFrom ((s2.heap.push { cls := .type "dict", data := .dict #[] }).objs.size + 1) scope.names (cloFrom X.env.cells scope.names [])) (s2.heap.push { cls := .type "dict", data := .dict #[] }).objs.size X.env)) R
      { s2 with heap := pushCells ((s2.heap.push { cls := .type "dict", data := .dict #[] }).push { cls := .type "dict", data := .dict #[] }) scope.names } := by
  have I3 : Inv X pins σ (upd H2 s2.heap.objs.size (F.ob s2.heap.objs.size)) { s2 with heap := s2.heap.push { cls := .type "dict", data := .dict #[] } } :=
    I2.laid (t' := s2.toks) (fun b o e => Heap.get?_push_of_some _ e) (Nat.le_refl _) (F.new _ s2.heap I2.big)
  have sz : ∀ b ∈ fp, b < s2.heap.objs.size := fun b hb => by
    obtain ⟨o, e, _⟩ := T.obj _ _ st2 b hb
    exact Heap.lt_size e
  have f3 : ∀ b ∈ fp, FpOk X pins (upd H2 s2.heap.objs.size (F.ob s2.heap.objs.size)) b ∧ b < (s2.heap.push { cls := .type "dict", data := .dict #[] }).objs.size := fun b hb => by
    have hlt := sz b hb
    refine ⟨⟨?_, (f2 b hb).2⟩, by rw [Heap.size_push]; exact Nat.lt_succ_of_lt hlt⟩
    rw [upd_ne (Nat.ne_of_lt hlt)]
    exact (f2 b hb).1
  have I4 := block_start I3 ok hN f3
  refine go _ _ _ _ _ _ rfl rfl rfl rfl rfl I3 I4 ?_ fun b hb => (f3 b hb).1
  exact T.keep _ _ _ st2 fun b _ o e => pushCells_keeps _ _ _ _ (Heap.get?_push_of_some _ (Heap.get?_push_of_some _ e))
/-- back in the def behind the block -/
theorem block_out {pins : List (Addr × Obj)} {σ σ' : L2.St} {s3 s6 : Shared} {H3 H5 : Hp} {ce : Env} {fp : List Addr} {p2 : List (Addr × Obj)} (I3 : Inv X pins σ H3 s3) (f3 : ∀ b ∈ fp, FpOk X pins H3 b) (cL : ce.locals = s3.heap.objs.size) (I6 : Inv (X.blk s3 H3 scope ce fp) p2 σ' H5 s6) :
    Inv X pins σ H5 s6 ∧ ∃ m, s6.heap.Ns s3.heap.objs.size m ∧ FpOk X pins H5 s3.heap.objs.size := by
  refine ⟨I3.call' (ch := fp) I6.os I6.base I6.hok I6.bare fun b hb => ⟨(f3 b hb).2.2.2.1, (f3 b hb).2.1, (f3 b hb).2.2.2.2.1, (f3 b hb).2.2.2.2.2⟩, ?_⟩
  obtain ⟨m, hn, _⟩ := I6.loc
  have hn : s6.heap.Ns ce.locals m := hn
  have nC : H5 ce.locals = none := I6.free
  rw [cL] at hn nC
  exact ⟨m, hn, I3.fpOk (Nat.le_refl _) nC⟩
/-- the iterator's records in a block -/
theorem block_fp {σ' : L2.St} {s3 s' : Shared} {H3 H' : Hp} {ce : Env} {fp : List Addr} (I' : Inv (X.blk s3 H3 scope ce fp) [] σ' H' s') (hn : ∀ b ∈ fp, H' b = none) : ∀ b ∈ fp, FpOk (X.blk s3 H3 scope ce fp) [] H' b := fun b hb =>
  ⟨hn b hb, (I'.ok.exf b hb).1, I'.ok.exfs b hb, .inl hb, fun x c e => (I'.ok.exf b hb).2 x c e, fun p hp => absurd (show p ∈ ([] : List (Addr × Obj)) ++ [] from hp) (by simp)⟩
/-- the end of a turn: what the records were and are -/
theorem turn_end {tg : Expr} {J : It} {it : Addr} {fp : List Addr} {tn : Nat → Heap → Prop} {Y : Cx} {q : List (Addr × Obj)} {σ σ9 : L2.St} {s7 s' : Shared} {H' : Hp} {i : Nat} (T : Turn X.prog X.w X.K tg J fp it tn) (st : tn i s7.heap) (I' : Inv Y (q ++ pinsAt fp s7.heap) σ9 H' s')
    (hl : σ.length = σ9.length) (hk : ∀ (j : Nat) v, σ[j]? = some (some v) → σ9[j]? = some (some v)) : Inv Y q σ H' s' ∧ tn i s'.heap ∧ ∀ b ∈ fp, H' b = none := by
  have pin' : ∀ b ∈ fp, ∀ o, s7.heap.get? b = some o → s'.heap.get? b = some o ∧ H' b = none := fun b hb o e =>
    let z := I'.pin (b, o) (List.mem_append_right _ (List.mem_append_right _ (mem_pinsAt hb e)))
    ⟨z.1, z.2.1⟩
  refine ⟨I'.unpinned.weak hl hk, T.keep _ _ _ st fun b hb o e => (pin' b hb o e).1, fun b hb => ?_⟩
  obtain ⟨o, e, _⟩ := T.obj _ _ st b hb
  exact (pin' b hb o e).2
theorem wipe_keeps {σ8 : L2.St} {σ : L2.St} {vs : List Nat} (h : wipe σ8 vs = wipe σ vs) : (wipe σ vs).length = σ8.length ∧ ∀ (j : Nat) v, (wipe σ vs)[j]? = some (some v) → σ8[j]? = some (some v) :=
  ⟨by rw [← h, wipe_length], fun j v e => by rw [← h] at e; exact (wipe_some e).1⟩
theorem pe_dcF (F : Fill X) (hc : X.calm = true) (hN : X.N.Nodup) (hi : PI X tg iter wi) (ok : BlkOk X.N X.env.scope scope own)
    (hg : ∀ (s : Shared) (H : Hp) (C : Addr) (cl : List (Str × Addr)) (fp : List Addr), PG (X.blk s H scope (compEnvC scope cl C X.env) fp) tg g)
    (ht : ∀ (s : Shared) (H : Hp) (C : Addr) (cl : List (Str × Addr)) (fp : List Addr), PTs (X.blk s H scope (compEnvC scope cl C X.env) fp) ifs tt)
    (hk : ∀ (s : Shared) (H : Hp) (C : Addr) (cl : List (Str × Addr)) (fp : List Addr), PE (X.blk s H scope (compEnvC scope cl C X.env) fp) kx tk)
    (he : ∀ (s : Shared) (H : Hp) (C : Addr) (cl : List (Str × Addr)) (fp : List Addr), PE (X.blk s H scope (compEnvC scope cl C X.env) fp) vx tv) (hs : ∀ x, foldedSetIterable iter X.env x = pure x := by intro _; rfl) :
    PE X (.DictComp kx vx [⟨tg, iter, ifs, 0⟩] scope pos) (tDcF F wi g tt tk tv (own.map (·.2))) := by
  refine ⟨fun pins s σ H Q I h => ?_⟩
  rw [arm_eval_DictComp]
  have hfree : ∀ y ∈ scope.names, y.2 = .free → ∃ c, X.env.cells.lookup y.1 = some c := fun y hy e => (ok.free y hy e).elim (fun k => I.ok.has _ (.inl k)) fun k => I.ok.has _ (.inr k)
  refine wpAny_comprehension_free (use := none) rfl hs (closure_ok hfree) ok.kind (fun y hy e => by rw [ok.uniq y hy, e])
    (thn (hi.run pins s σ H _ I h) fun xv s1 hx => thn hx fun itv s2 h2 => ?_)
  obtain ⟨it, fp, tn, J, H2, e, I2, T, st2, f2, q⟩ := h2
  subst e
  refine wpAny_newObj_type (newEnv_comp ?_)
  obtain ⟨W, ⟨m0, w0⟩, turn⟩ := q s2.heap.objs.size (I2.hok.fresh (Nat.le_refl _)) (beq_eq_false_iff_ne.mpr (Ne.symm (Nat.ne_of_lt I2.big)))
  have loop := block_in (comp := .DictComp kx vx [⟨tg, iter, ifs, 0⟩] scope pos) (scope := scope) (own := own) F hN ok I2 T st2 f2
    (R := compPost (model X.prog X.w) X.A X.xe none (fun v s' => EP X pins σ Q v s') (.ref s2.heap.objs.size) (s2.heap.push { cls := .type "dict", data := .dict #[] }).objs.size) ?go
  case go =>
    intro s3 s4 ce H3 C cl eH h3 ece cL eC I3 I4 st4 f3
    subst eC
    have pg := hg s3 H3 s3.heap.objs.size cl fp
    have pt := ht s3 H3 s3.heap.objs.size cl fp
    have pk := hk s3 H3 s3.heap.objs.size cl fp
    have pe := he s3 H3 s3.heap.objs.size cl fp
    rw [← ece] at pg pt pk pe
    rw [← eH] at w0
    rw [← h3]
    refine compLoop_anyD (fun n s' => ∃ i H', Inv (X.blk s3 H3 scope ce fp) [] (wipe σ (own.map (·.2))) H' s' ∧ tn i s'.heap ∧ (∀ b ∈ fp, H' b = none) ∧ W i n H') ?_ m0 ⟨0, H3, I4, st4, fun b hb => (f3 b hb).1, w0⟩
    rintro n s5 ⟨i, H5, I5, st5, n5, w5⟩
    rcases turn i n H5 w5 with ⟨stop, qq⟩ | ⟨go, Nx, hNx, step⟩
    · refine thnF (T.done (X.blk s3 H3 scope ce fp) rfl rfl rfl hc i [] s5 _ H5 (fun _ _ => False) I5 (block_fp I5 n5) st5 stop) fun r s6 ⟨hr, I6⟩ => ?_
      subst hr
      obtain ⟨I7, m, hn, f0, f1, f2, f3', f4, f5⟩ := block_out I3 f3 cL I6
      refine ⟨m, hn, fun h'' sb => ⟨.ref s2.heap.objs.size, H5, I7.turned (t' := s6.toks) (fun b o hb e => (sb.2 b hb).trans e) f0 f1 f3' f4 f5, rfl, qq⟩⟩
    · refine thnF (T.item (X.blk s3 H3 scope ce fp) rfl rfl rfl hc i [] s5 _ H5 (fun _ _ => False) I5 (block_fp I5 n5) st5 go) fun r s6 ⟨u, hr, h6⟩ => ?_
      subst hr
      refine thnF h6 fun _ s7 ⟨x, H7, I7, r7, y7, st7, n7⟩ => ?_
      refine thnF (pg.run _ s7 _ H7 x u _ (I7.pinned (block_fp I7 n7) (T.obj _ _ st7)) r7 (step x H7 y7)) fun _ s8 ⟨σ8, H8, I8, hw8, q8⟩ => ?_
      refine thnF (pt.run _ s8 σ8 H8 _ I8 q8) fun b s9 ⟨H9, I9, q9⟩ => ?_
      obtain ⟨hl8, hk8⟩ := wipe_keeps hw8
      have fin : ∀ {s' : Shared} {H' : Hp}, Inv (X.blk s3 H3 scope ce fp) ([] ++ pinsAt fp s7.heap) σ8 H' s' → Nx H' → ∃ m, m < n ∧ ∃ i H', Inv (X.blk s3 H3 scope ce fp) [] (wipe σ (own.map (·.2))) H' s' ∧ tn i s'.heap ∧ (∀ b ∈ fp, H' b = none) ∧ W i m H' := fun {s' H'} I' nx => by
        obtain ⟨m', hm, w'⟩ := hNx H' nx
        obtain ⟨a1, a2, a3⟩ := turn_end T st7 I' hl8 hk8
        exact ⟨m', hm, i + 1, H', a1, a2, a3, w'⟩
      cases b with
      | false => exact fin I9 q9
      | true =>
        refine thnF (pk.run _ s9 σ8 H9 _ I9 q9) fun z s10 ⟨yk, H10, I10, r10, q10⟩ => ?_
        refine thnF (pe.run _ s10 σ8 H10 _ I10 q10) fun z2 s11 ⟨yv, H11, I11, r11, q11⟩ => ?_
        exact thnF (F.set s3 H3 scope ce fp _ s11 σ8 H11 _ _ _ _ _ Nx I11 r10 r11 q11) fun _ s12 ⟨H12, I12, nx⟩ => fin I12 nx
  exact codeAny_compStart_dict loop (T.self X.A 0 _ _ _ (T.keep _ _ _ st2 fun b _ o e => pushCells_keeps _ _ _ _ (Heap.get?_push_of_some _ (Heap.get?_push_of_some _ e))) loop)
end
end

/-! ### two clauses -/
section
variable {prog : Program} {w : World} {A : Around} {R : Result → Shared → Prop} {s : Shared} {kx vx t0 i0 t1 i1 : Expr} {ifs0 ifs1 : List Expr} {scope : Scope} {pos : Pos} {it : Value} {D : Addr} {env : Env}
abbrev DC2 (kx vx t0 i0 : Expr) (ifs0 : List Expr) (t1 i1 : Expr) (ifs1 : List Expr) (scope : Scope) (pos : Pos) : Expr := .DictComp kx vx [⟨t0, i0, ifs0, 0⟩, ⟨t1, i1, ifs1, 0⟩] scope pos
theorem dc2_turn0 : compTurn (DC2 kx vx t0 i0 ifs0 t1 i1 ifs1 scope pos) 0 it (.ref D) env = (do
      standAt i0.pos
      match ← pyNext it with
      | none => pure (.done .next)
      | some v =>
        letOwnedTupleGo t0 it v
        assign t0 env v
        let mut ok := true
        for c in ifs0 do
          if ok then ok ← isTrue c env (eval c env)
        if ok then
          let x ← eval i1 env
          standAt i1.pos
          let x ← foldedSetIterable i1 env x
          let _ ← runOwn (.compStart (DC2 kx vx t0 i0 ifs0 t1 i1 ifs1 scope pos) 1 (← holding [x] (pyIter x)) (.ref D) env) env
        again (.compLoop (DC2 kx vx t0 i0 ifs0 t1 i1 ifs1 scope pos) 0 it (.ref D) env)) := by rfl
theorem dc2_turn1 : compTurn (DC2 kx vx t0 i0 ifs0 t1 i1 ifs1 scope pos) 1 it (.ref D) env = (do
      standAt i1.pos
      match ← pyNext it with
      | none => pure (.done .next)
      | some v =>
        letOwnedTupleGo t1 it v
        assign t1 env v
        let mut ok := true
        for c in ifs1 do
          if ok then ok ← isTrue c env (eval c env)
        if ok then
          (do
            let kv ← eval kx env
            let vv ← holding [kv] (eval vx env)
            standAt { kx.pos with endLine := vx.pos.endLine, endCol := vx.pos.endCol }
            holding [kv, vv] (dictSet D kv vv))
        again (.compLoop (DC2 kx vx t0 i0 ifs0 t1 i1 ifs1 scope pos) 1 it (.ref D) env)) := by rfl
abbrev testsSem (ifs : List Expr) (env : Env) : Sem Bool := forIn ifs true fun c r => if r = true then do let ok ← isTrue c env (eval c env); pure (ForInStep.yield ok) else pure (ForInStep.yield r)
theorem dc2_loop0 (hs : ∀ x, foldedSetIterable i1 env x = pure x) (I : Nat → Shared → Prop)
    (turn : ∀ n s, I n s → wpAny (model prog w) A (pyNext it) (fun r s₁ => match r with
      | none => R (.ok .next) s₁
      | some v => wpAny (model prog w) A (letOwnedTupleGo t0 it v) (fun _ s₁' => wpAny (model prog w) A (assign t0 env v) (fun _ s₂ =>
          wpAny (model prog w) A (testsSem ifs0 env) (fun ok s₃ =>
            if ok = true then wpAny (model prog w) A (eval i1 env) (fun x s₄ => wpAny (model prog w) A (pyIter x) (fun it1 s₅ =>
              codeAny (model prog w) A (.compStart (DC2 kx vx t0 i0 ifs0 t1 i1 ifs1 scope pos) 1 it1 (.ref D) env) (fun r s' => match r with
                | .ok _ => ∃ m, m < n ∧ I m s'
                | .error _ => False) s₅) (notedBy (model prog w) A env fun e s' => R (.error e) s') s₄) (notedBy (model prog w) A env fun e s' => R (.error e) s') s₃
            else ∃ m, m < n ∧ I m s₃) (notedBy (model prog w) A env fun e s' => R (.error e) s') s₂) (notedBy (model prog w) A env fun e s' => R (.error e) s') s₁') (notedBy (model prog w) A env fun e s' => R (.error e) s') s₁) (notedBy (model prog w) A env fun e s' => R (.error e) s') s)
    (n : Nat) (h : I n s) : codeAny (model prog w) A (.compLoop (DC2 kx vx t0 i0 ifs0 t1 i1 ifs1 scope pos) 0 it (.ref D) env) R s := by
  refine codeAny_loop rfl I (fun n s hI => ?_) n h
  show wpAny _ A ((compTurn (DC2 kx vx t0 i0 ifs0 t1 i1 ifs1 scope pos) 0 it (.ref D) env).onRaise (fun x => do noteFrame x env; theTreesLotGoes x)) _ _ s
  refine wpAny_noted ?_
  rw [dc2_turn0]
  refine wpAny_bind (wpAny_standAt (wpAny_bind (wpAny_mono (turn n s hI) (fun r s₁ h₁ => ?_) fun _ _ h' => h')))
  cases r with
  | none => exact wpAny_pure h₁
  | some v =>
    refine wpAny_bind (wpAny_mono h₁ (fun _ s₁' h₁' => ?_) fun _ _ h' => h')
    refine wpAny_bind (wpAny_mono h₁' (fun _ s₂ h₂ => wpAny_bind (wpAny_mono h₂ (fun ok s₃ h₃ => ?_) fun _ _ h' => h')) fun _ _ h' => h')
    cases ok with
    | false => exact wpAny_pure ⟨rfl, h₃⟩
    | true =>
      refine wpAny_bind (wpAny_mono h₃ (fun x s₄ h₄ => ?_) fun _ _ h' => h')
      refine wpAny_bind (wpAny_standAt (wpAny_bind (wpAny_of_eq (hs x) (wpAny_bind (wpAny_holding (wpAny_mono h₄ (fun it1 s₅ h₅ => ?_) fun _ _ h' => h'))))))
      refine wpAny_bind (wpAny_runOwn ?_)
      rw [Around.mark_none]
      refine codeAny_mono h₅ fun r s' hr => ?_
      cases r with
      | ok f =>
        first
          | exact wpAny_pure ⟨rfl, hr⟩
          | exact wpAny_bind (wpAny_pure (wpAny_pure ⟨rfl, hr⟩))
      | error e => exact hr.elim
theorem dc2_loop1 (I : Nat → Shared → Prop)
    (turn : ∀ n s, I n s → wpAny (model prog w) A (pyNext it) (fun r s₁ => match r with
      | none => R (.ok .next) s₁
      | some v => wpAny (model prog w) A (letOwnedTupleGo t1 it v) (fun _ s₁' => wpAny (model prog w) A (assign t1 env v) (fun _ s₂ =>
          wpAny (model prog w) A (testsSem ifs1 env) (fun ok s₃ =>
            if ok = true then wpAny (model prog w) A (eval kx env) (fun kv s₄ => wpAny (model prog w) A (eval vx env) (fun vv s₅ =>
              wpAny (model prog w) A (dictSet D kv vv) (fun _ s₆ => ∃ m, m < n ∧ I m s₆) (notedBy (model prog w) A env fun e s' => R (.error e) s') s₅) (notedBy (model prog w) A env fun e s' => R (.error e) s') s₄) (notedBy (model prog w) A env fun e s' => R (.error e) s') s₃
            else ∃ m, m < n ∧ I m s₃) (notedBy (model prog w) A env fun e s' => R (.error e) s') s₂) (notedBy (model prog w) A env fun e s' => R (.error e) s') s₁') (notedBy (model prog w) A env fun e s' => R (.error e) s') s₁) (notedBy (model prog w) A env fun e s' => R (.error e) s') s)
    (n : Nat) (h : I n s) : codeAny (model prog w) A (.compLoop (DC2 kx vx t0 i0 ifs0 t1 i1 ifs1 scope pos) 1 it (.ref D) env) R s := by
  refine codeAny_loop rfl I (fun n s hI => ?_) n h
  show wpAny _ A ((compTurn (DC2 kx vx t0 i0 ifs0 t1 i1 ifs1 scope pos) 1 it (.ref D) env).onRaise (fun x => do noteFrame x env; theTreesLotGoes x)) _ _ s
  refine wpAny_noted ?_
  rw [dc2_turn1]
  refine wpAny_bind (wpAny_standAt (wpAny_bind (wpAny_mono (turn n s hI) (fun r s₁ h₁ => ?_) fun _ _ h' => h')))
  cases r with
  | none => exact wpAny_pure h₁
  | some v =>
    refine wpAny_bind (wpAny_mono h₁ (fun _ s₁' h₁' => ?_) fun _ _ h' => h')
    refine wpAny_bind (wpAny_mono h₁' (fun _ s₂ h₂ => wpAny_bind (wpAny_mono h₂ (fun ok s₃ h₃ => ?_) fun _ _ h' => h')) fun _ _ h' => h')
    cases ok with
    | false => exact wpAny_pure ⟨rfl, h₃⟩
    | true =>
      exact wpAny_bind (wpAny_bind (wpAny_mono h₃ (fun kv s₄ h₄ => wpAny_bind (wpAny_holding (wpAny_mono h₄ (fun vv s₅ h₅ => wpAny_bind (wpAny_standAt (wpAny_holding (wpAny_mono h₅ (fun _ s₆ h₆ => wpAny_pure ⟨rfl, h₆⟩) fun _ _ h' => h')))) fun _ _ h' => h'))) fun _ _ h' => h'))
theorem dc2_start1 {it : Value} (h0 : codeAny (model prog w) A (.compLoop (DC2 kx vx t0 i0 ifs0 t1 i1 ifs1 scope pos) 1 it (.ref D) env) R s)
    (h : wpAny (model prog w) A (pyIter it) (fun it' s' => codeAny (model prog w) A (.compLoop (DC2 kx vx t0 i0 ifs0 t1 i1 ifs1 scope pos) 1 it' (.ref D) env) R s') (notedBy (model prog w) A env fun x s' => R (.error x) s') s) :
    codeAny (model prog w) A (.compStart (DC2 kx vx t0 i0 ifs0 t1 i1 ifs1 scope pos) 1 it (.ref D) env) R s := by
  refine codeAny_of_tree ?_
  show wpAny _ _ ((compStart (DC2 kx vx t0 i0 ifs0 t1 i1 ifs1 scope pos) 1 it (.ref D) env).onRaise (fun x => do noteFrame x env; standAt theWindowsPlace)) _ _ s
  refine wpAny_notedAt ?_
  unfold compStart
  show wpAny _ _ (ask >>= _) _ _ s
  refine wpAny_bind (wpAny_askSetting (wpAny_ite ?_))
  split
  · first
      | exact wpAny_bind (wpAny_pure (wpAny_pure (And.intro rfl h0)))
      | exact wpAny_pure (And.intro rfl h0)
  · first
      | exact wpAny_bind (wpAny_rule (wpAny_bind (wpAny_standAt (wpAny_bind (wpAny_mono h (fun it' s' h' => wpAny_pure (And.intro rfl h')) fun _ _ x => x)))))
      | (refine wpAny_bind (wpAny_rule ?_); show wpAny _ _ (standAt i1.pos >>= _) _ _ s; exact wpAny_bind (wpAny_standAt (wpAny_bind (wpAny_mono h (fun it' s' h' => wpAny_pure (And.intro rfl h')) fun _ _ x => x))))
end
section
variable {X : Cx} {kx vx tg iter tg1 iter1 : Expr} {ifs ifs1 : List Expr} {scope : Scope} {own : List (Str × Nat)} {vs1 : List Nat} {pos : Pos} {wi wi1 : TI} {g g1 : TG} {tt tt1 : TT} {tk tv : TE}
/-- {k: v for tg in iter if .. for tg1 in iter1 if ..} -/
def tDcF2 (F : Fill X) (wi : TI) (g : TG) (tt : TT) (wi1 : TI) (g1 : TG) (tt1 : TT) (tk tv : TE) (vs vs1 : List Nat) : TE := fun σ H Q => wi σ H fun J H1 => ∀ D, H1 D = none → (D == sysModules) = false → ∃ W : Nat → Nat → Hp → Prop, (∃ m, W 0 m (upd H1 D (F.ob D))) ∧ ∀ i m H, W i m H →
  (J.stop i H ∧ Q (.ref D) H) ∨ (J.go i H ∧ ∃ Nx : Hp → Prop, (∀ H', Nx H' → ∃ m', m' < m ∧ W (i + 1) m' H') ∧ ∀ x H', J.yld i H x H' → g x (wipe σ vs) H' fun σ2 H2 => wipe σ2 vs = wipe σ vs ∧ tt σ2 H2 fun b H3 =>
    if b = true then wi1 σ2 H3 fun J1 H4 => ∃ W1 : Nat → Nat → Hp → Prop, (∃ m, W1 0 m H4) ∧ ∀ j k H, W1 j k H →
      (J1.stop j H ∧ Nx H) ∨ (J1.go j H ∧ ∃ Nx1 : Hp → Prop, (∀ H', Nx1 H' → ∃ k', k' < k ∧ W1 (j + 1) k' H') ∧ ∀ x H', J1.yld j H x H' → g1 x (wipe σ2 vs1) H' fun σ3 H5 => wipe σ3 vs1 = wipe σ2 vs1 ∧ tt1 σ3 H5 fun b H6 =>
        if b = true then tk σ3 H6 fun y H7 => tv σ3 H7 fun z H8 => F.st D y z H8 Nx1 else Nx1 H6)
    else Nx H3)
theorem pe_dcF2 (F : Fill X) (hc : X.calm = true) (hN : X.N.Nodup) (hi : PI X tg iter wi) (ok : BlkOk X.N X.env.scope scope own) (hv : ∀ i ∈ vs1, i ∈ own.map (·.2))
    (hg : ∀ (s : Shared) (H : Hp) (C : Addr) (cl : List (Str × Addr)) (fp : List Addr), PG (X.blk s H scope (compEnvC scope cl C X.env) fp) tg g)
    (ht : ∀ (s : Shared) (H : Hp) (C : Addr) (cl : List (Str × Addr)) (fp : List Addr), PTs (X.blk s H scope (compEnvC scope cl C X.env) fp) ifs tt)
    (hi1 : ∀ (s : Shared) (H : Hp) (C : Addr) (cl : List (Str × Addr)) (fp : List Addr), PI (X.blk s H scope (compEnvC scope cl C X.env) fp) tg1 iter1 wi1)
    (hg1 : ∀ (s : Shared) (H : Hp) (C : Addr) (cl : List (Str × Addr)) (fp : List Addr), PG (X.blk s H scope (compEnvC scope cl C X.env) fp) tg1 g1)
    (ht1 : ∀ (s : Shared) (H : Hp) (C : Addr) (cl : List (Str × Addr)) (fp : List Addr), PTs (X.blk s H scope (compEnvC scope cl C X.env) fp) ifs1 tt1)
    (hk : ∀ (s : Shared) (H : Hp) (C : Addr) (cl : List (Str × Addr)) (fp : List Addr), PE (X.blk s H scope (compEnvC scope cl C X.env) fp) kx tk)
    (he : ∀ (s : Shared) (H : Hp) (C : Addr) (cl : List (Str × Addr)) (fp : List Addr), PE (X.blk s H scope (compEnvC scope cl C X.env) fp) vx tv) (hs : ∀ x, foldedSetIterable iter X.env x = pure x := by intro _; rfl) (hs1 : ∀ env x, foldedSetIterable iter1 env x = pure x := by intro _ _; rfl) :
    PE X (DC2 kx vx tg iter ifs tg1 iter1 ifs1 scope pos) (tDcF2 F wi g tt wi1 g1 tt1 tk tv (own.map (·.2)) vs1) := by
  refine ⟨fun pins s σ H Q I h => ?_⟩
  rw [arm_eval_DictComp]
  have hfree : ∀ y ∈ scope.names, y.2 = .free → ∃ c, X.env.cells.lookup y.1 = some c := fun y hy e => (ok.free y hy e).elim (fun k => I.ok.has _ (.inl k)) fun k => I.ok.has _ (.inr k)
  refine wpAny_comprehension_free (use := none) rfl hs (closure_ok hfree) ok.kind (fun y hy e => by rw [ok.uniq y hy, e])
    (thn (hi.run pins s σ H _ I h) fun xv s1 hx => thn hx fun itv s2 h2 => ?_)
  obtain ⟨it, fp, tn, J, H2, e, I2, T, st2, f2, q⟩ := h2
  subst e
  refine wpAny_newObj_type (newEnv_comp ?_)
  obtain ⟨W, ⟨m0, w0⟩, turn⟩ := q s2.heap.objs.size (I2.hok.fresh (Nat.le_refl _)) (beq_eq_false_iff_ne.mpr (Ne.symm (Nat.ne_of_lt I2.big)))
  have loop := block_in (comp := DC2 kx vx tg iter ifs tg1 iter1 ifs1 scope pos) (scope := scope) (own := own) F hN ok I2 T st2 f2
    (R := compPost (model X.prog X.w) X.A X.xe none (fun v s' => EP X pins σ Q v s') (.ref s2.heap.objs.size) (s2.heap.push { cls := .type "dict", data := .dict #[] }).objs.size) ?go
  case go =>
    intro s3 s4 ce H3 C cl eH h3 ece cL eC I3 I4 st4 f3
    subst eC
    have pg := hg s3 H3 s3.heap.objs.size cl fp
    have pt := ht s3 H3 s3.heap.objs.size cl fp
    have pi1 := hi1 s3 H3 s3.heap.objs.size cl fp
    have pg1 := hg1 s3 H3 s3.heap.objs.size cl fp
    have pt1 := ht1 s3 H3 s3.heap.objs.size cl fp
    have pk := hk s3 H3 s3.heap.objs.size cl fp
    have pe := he s3 H3 s3.heap.objs.size cl fp
    rw [← ece] at pg pt pi1 pg1 pt1 pk pe
    rw [← eH] at w0
    rw [← h3]
    refine dc2_loop0 (hs1 ce) (fun n s' => ∃ i H', Inv (X.blk s3 H3 scope ce fp) [] (wipe σ (own.map (·.2))) H' s' ∧ tn i s'.heap ∧ (∀ b ∈ fp, H' b = none) ∧ W i n H') ?_ m0 ⟨0, H3, I4, st4, fun b hb => (f3 b hb).1, w0⟩
    rintro n s5 ⟨i, H5, I5, st5, n5, w5⟩
    rcases turn i n H5 w5 with ⟨stop, qq⟩ | ⟨go, Nx, hNx, step⟩
    · refine thnF (T.done (X.blk s3 H3 scope ce fp) rfl rfl rfl hc i [] s5 _ H5 (fun _ _ => False) I5 (block_fp I5 n5) st5 stop) fun r s6 ⟨hr, I6⟩ => ?_
      subst hr
      obtain ⟨I7, m, hn, f0, f1, f2, f3', f4, f5⟩ := block_out I3 f3 cL I6
      refine ⟨m, hn, fun h'' sb => ⟨.ref s2.heap.objs.size, H5, I7.turned (t' := s6.toks) (fun b o hb e => (sb.2 b hb).trans e) f0 f1 f3' f4 f5, rfl, qq⟩⟩
    · refine thnF (T.item (X.blk s3 H3 scope ce fp) rfl rfl rfl hc i [] s5 _ H5 (fun _ _ => False) I5 (block_fp I5 n5) st5 go) fun r s6 ⟨u, hr, h6⟩ => ?_
      subst hr
      refine thnF h6 fun _ s7 ⟨x, H7, I7, r7, y7, st7, n7⟩ => ?_
      refine thnF (pg.run _ s7 _ H7 x u _ (I7.pinned (block_fp I7 n7) (T.obj _ _ st7)) r7 (step x H7 y7)) fun _ s8 ⟨σ8, H8, I8, hw8, q8⟩ => ?_
      refine thnF (pt.run _ s8 σ8 H8 _ I8 q8) fun b s9 ⟨H9, I9, q9⟩ => ?_
      obtain ⟨hl8, hk8⟩ := wipe_keeps hw8
      have fin : ∀ {σ9 : L2.St} {s' : Shared} {H' : Hp}, Inv (X.blk s3 H3 scope ce fp) ([] ++ pinsAt fp s7.heap) σ9 H' s' → (wipe σ (own.map (·.2))).length = σ9.length → (∀ (j : Nat) v, (wipe σ (own.map (·.2)))[j]? = some (some v) → σ9[j]? = some (some v)) → Nx H' →
          ∃ m, m < n ∧ ∃ i H', Inv (X.blk s3 H3 scope ce fp) [] (wipe σ (own.map (·.2))) H' s' ∧ tn i s'.heap ∧ (∀ b ∈ fp, H' b = none) ∧ W i m H' := fun {σ9 s' H'} I' hl hk nx => by
        obtain ⟨m', hm, w'⟩ := hNx H' nx
        obtain ⟨a1, a2, a3⟩ := turn_end T st7 I' hl hk
        exact ⟨m', hm, i + 1, H', a1, a2, a3, w'⟩
      have hk9 : ∀ (j : Nat) v, (wipe σ (own.map (·.2)))[j]? = some (some v) → (wipe σ8 vs1)[j]? = some (some v) := fun j v e => by
        rw [← hw8] at e
        obtain ⟨e1, e2⟩ := wipe_some e
        rw [wipe_out fun z => e2 (hv j z)]
        exact e1
      cases b with
      | false => exact fin I9 hl8 hk8 q9
      | true =>
        refine thnF (pi1.run _ s9 σ8 H9 _ I9 q9) fun xv1 s10 hx1 => thnF hx1 fun itv1 s11 h11 => ?_
        obtain ⟨it1, fp1, tn1, J1, H11, e1, I11, T1, st11, f11, W1, ⟨m1, w1⟩, turn1⟩ := h11
        subst e1
        have stat1 : ∀ {H' : Hp}, (∀ b ∈ fp1, H' b = none) → ∀ b ∈ fp1, FpOk (X.blk s3 H3 scope ce fp) ([] ++ pinsAt fp s7.heap) H' b := fun hn b hb => ⟨hn b hb, (f11 b hb).2⟩
        have loop1 : codeAny (model X.prog X.w) X.A (.compLoop (DC2 kx vx tg iter ifs tg1 iter1 ifs1 scope pos) 1 (.ref it1) (.ref s2.heap.objs.size) ce)
            (fun r s' => match r with
              | .ok _ => ∃ m, m < n ∧ ∃ i H', Inv (X.blk s3 H3 scope ce fp) [] (wipe σ (own.map (·.2))) H' s' ∧ tn i s'.heap ∧ (∀ b ∈ fp, H' b = none) ∧ W i m H'
              | .error _ => False) s11 := by
          refine dc2_loop1 (fun k s' => ∃ j H', Inv (X.blk s3 H3 scope ce fp) ([] ++ pinsAt fp s7.heap) (wipe σ8 vs1) H' s' ∧ tn1 j s'.heap ∧ (∀ b ∈ fp1, H' b = none) ∧ W1 j k H') ?_ m1 ⟨0, H11, I11.weak (wipe_length _ _) (fun j v e => (wipe_some e).1), st11, fun b hb => (f11 b hb).1, w1⟩
          rintro k s12 ⟨j, H12, I12, st12, n12, w12⟩
          rcases turn1 j k H12 w12 with ⟨stop1, nx1⟩ | ⟨go1, Nx1, hNx1, step1⟩
          · refine thnF (T1.done (X.blk s3 H3 scope ce fp) rfl rfl rfl hc j _ s12 (wipe σ8 vs1) H12 (fun _ _ => False) I12 (stat1 n12) st12 stop1) fun r s13 ⟨hr, I13⟩ => ?_
            subst hr
            exact fin I13 (hl8.trans (wipe_length σ8 vs1).symm) hk9 nx1
          · refine thnF (T1.item (X.blk s3 H3 scope ce fp) rfl rfl rfl hc j _ s12 (wipe σ8 vs1) H12 (fun _ _ => False) I12 (stat1 n12) st12 go1) fun r s13 ⟨u1, hr, h13⟩ => ?_
            subst hr
            refine thnF h13 fun _ s14 ⟨x1, H14, I14, r14, y14, st14, n14⟩ => ?_
            refine thnF (pg1.run _ s14 (wipe σ8 vs1) H14 x1 u1 _ (I14.pinned (stat1 n14) (T1.obj _ _ st14)) r14 (step1 x1 H14 y14)) fun _ s15 ⟨σ15, H15, I15, hw15, q15⟩ => ?_
            refine thnF (pt1.run _ s15 σ15 H15 _ I15 q15) fun b1 s16 ⟨H16, I16, q16⟩ => ?_
            obtain ⟨hl15, hk15⟩ := wipe_keeps hw15
            have fin1 : ∀ {s' : Shared} {H' : Hp}, Inv (X.blk s3 H3 scope ce fp) (([] ++ pinsAt fp s7.heap) ++ pinsAt fp1 s14.heap) σ15 H' s' → Nx1 H' → ∃ m, m < k ∧ ∃ j H', Inv (X.blk s3 H3 scope ce fp) ([] ++ pinsAt fp s7.heap) (wipe σ8 vs1) H' s' ∧ tn1 j s'.heap ∧ (∀ b ∈ fp1, H' b = none) ∧ W1 j m H' := fun {s' H'} I' nx => by
              obtain ⟨m', hm, w'⟩ := hNx1 H' nx
              obtain ⟨a1, a2, a3⟩ := turn_end T1 st14 I' hl15 hk15
              exact ⟨m', hm, j + 1, H', a1, a2, a3, w'⟩
            cases b1 with
            | false => exact fin1 I16 q16
            | true =>
              refine thnF (pk.run _ s16 σ15 H16 _ I16 q16) fun z s17 ⟨yk, H17, I17, r17, q17⟩ => ?_
              refine thnF (pe.run _ s17 σ15 H17 _ I17 q17) fun z2 s18 ⟨yv, H18, I18, r18, q18⟩ => ?_
              exact thnF (F.set s3 H3 scope ce fp _ s18 σ15 H18 _ _ _ _ _ Nx1 I18 r17 r18 q18) fun _ s19 ⟨H19, I19, nx⟩ => fin1 I19 nx
        exact dc2_start1 loop1 (T1.self X.A 0 _ _ _ st11 loop1)
  exact codeAny_compStart_dict loop (T.self X.A 0 _ _ _ (T.keep _ _ _ st2 fun b _ o e => pushCells_keeps _ _ _ _ (Heap.get?_push_of_some _ (Heap.get?_push_of_some _ e))) loop)
/-- the new dict is one from monomials to integers -/
def fillND (X : Cx) (hu : X.A.units + 64 < cLine) : Fill X where
  ob := fun D => RawD D #[] 0
  st := fun D y z H Nx => ∃ b kvs m c, y = .ref b ∧ z = .int c ∧ ND X H D kvs ∧ kvs.length < sizeLine ∧ MK X.K H b m ∧ ∀ o, Soft o → ND X (upd H D o) D (putP kvs m c) → Nx (upd H D o)
  new := fun H h _ => rawD_ok ⟨_, Heap.get?_push_size _ rfl, ⟨rfl, rfl, rfl⟩, rfl⟩
  set := fun s0 H0 scope ce fp pins s σ H D y z u r Nx I ru rr h => by
    obtain ⟨b, kvs, m, c, rfl, rfl, hd, hl, hb, q⟩ := h
    obtain rfl : u = Value.ref b := ru
    exact nd_dictSet (X := X.blk s0 H0 scope ce fp) hu I hd hl hb rr fun H' s' I' n' ⟨o, so, e⟩ => ⟨H', I', by subst e; exact q o so n'⟩
/-- .. one with ints and texts as keys -/
def fillK (X : Cx) : Fill X where
  ob := fun _ => .dK []
  st := fun D y z H Nx => ∃ kvs k, y = kV k ∧ H D = some (.dK kvs) ∧ kvs.length < sizeLine ∧ Nx (upd H D (.dK (putK kvs k z)))
  new := fun _ h hb => dk_empty h hb
  set := fun s0 H0 scope ce fp pins s σ H D y z u r Nx I ru rr h => by
    obtain ⟨kvs, k, rfl, hd, hl, q⟩ := h
    exact d_dictSet (X := X.blk s0 H0 scope ce fp) I hd hl ru rr fun s' I' => ⟨_, I', q⟩
end
end K03
set_option Elab.async false
set_option linter.all false
set_option maxRecDepth 100000
set_option maxHeartbeats 4000000
/-! sorted(xs) of data, tuples without items among them; x >= y of alike data; max(xs, default=d) -/
namespace PySem.W
open PySem PySem.Calls PyProof.Rows PySem.SeqAt

/-! ### sorting tuples, empty ones too -/
section
variable {prog : Program} {w : World} {A : Around} {E : Value → Shared → Prop} {s : Shared}
/-- the first items, where there is one -/
inductive Firsts (h : Heap) : List Value → List PyData → List (Option Value) → Prop
  | nil : Firsts h [] [] []
  | cons {a : Addr} {o : Obj} {xs : Array Value} {n : Nat} {ds : List PyData} {vs : List Value} {es : List PyData} {os : List (Option Value)} (ho : h.get? a = some o) (hc : o.cls = .type "tuple") (hd : o.data = .seq xs n) (hl : xs.size = ds.length) (r : Firsts h vs es os) :
      Firsts h (.ref a :: vs) (.tuple ds :: es) (xs[0]? :: os)
theorem firsts_of {h : Heap} : ∀ {vs : List Value} {ds : List PyData}, EachIs (fun v d => ∃ as, Reads h v d as) vs ds → (∀ d ∈ ds, ∃ xs, d = .tuple xs) → ∃ os, Firsts h vs ds os
  | _, _, .nil, _ => ⟨[], .nil⟩
  | _, _, .cons (b := d) ⟨as, r⟩ t, ht => by
    obtain ⟨os, hs⟩ := firsts_of t fun d hd => ht d (List.mem_cons_of_mem _ hd)
    obtain ⟨xs, rfl⟩ := ht d (List.mem_cons_self ..)
    cases r with
    | @tuple a o vs n _ _ ho hc hd hr => exact ⟨_, .cons ho hc hd (by simpa using ReadsAll.length _ _ _ hr) hs⟩
theorem firsts_run {M : Model} : ∀ {vs : List Value} {ds : List PyData} {os : List (Option Value)} {Q : List (Option Value) → Shared → Prop}, Firsts s.heap vs ds os → Q os s → wpAny M A (vs.mapM firstOfTuple') Q E s
  | _, _, _, _, .nil, h => by rw [List.mapM_nil]; exact wpAny_pure h
  | _, _, _, Q, .cons (xs := xs) (os := os) ho hc hd hl t, h => by
    rw [List.mapM_cons]
    refine wpAny_bind ?_
    rw [kas_first_eq]
    refine wpAny_bind (Looks.here (show Looks M s.heap (typeOf (.ref _)) _ from (Looks.ld ho).andThen .now) ?_)
    rw [hc, if_neg (by simp)]
    refine wpAny_bind (listItems_at ho hd (wpAny_pure ?_))
    exact wpAny_bind (firsts_run (Q := fun bs s' => wpAny M A (pure (xs[0]? :: bs)) Q E s') t (wpAny_pure h))
theorem firsts_all {h : Heap} : ∀ {vs : List Value} {ds : List PyData} {os : List (Option Value)}, Firsts h vs ds os → (os.all (·.isSome)) = true → ∀ d ∈ ds, ∃ x r, d = .tuple (x :: r)
  | _, _, _, .nil, _, _, hd => by simp at hd
  | _, _, _, .cons (xs := xs) (ds := ds) ho hc hdat hl t, ha, d, hd => by
    rw [List.all_cons, Bool.and_eq_true] at ha
    rcases List.mem_cons.mp hd with e | e
    · subst e
      cases ds with
      | nil =>
        have : xs[0]? = none := Array.getElem?_eq_none (by rw [hl]; exact Nat.le_refl _)
        rw [this] at ha
        exact absurd ha.1 (by simp)
      | cons x r => exact ⟨x, r, rfl⟩
    · exact firsts_all t ha.2 d e
theorem firsts_types {h : Heap} {M : Model} : ∀ {vs : List Value} {ds : List PyData} {os : List (Option Value)}, Firsts h vs ds os → ∀ v ∈ vs, Looks M h (typeOf v) (.type "tuple")
  | _, _, _, .nil, _, hv => by simp at hv
  | _, _, _, .cons ho hc hdat hl t, v, hv => by
    rcases List.mem_cons.mp hv with e | e
    · subst e
      exact hc ▸ (Looks.ld ho).andThen .now
    · exact firsts_types t v e
/-- .. compared as two of one type -/
theorem oneLt_tuples {da db : PyData} {a b : Value} {as bs : List Addr} {Q : Bool → Shared → Prop} {xs : List PyData} (e : da = .tuple xs) (ra : Reads s.heap a da as) (rb : Reads s.heap b db bs) (h : alike da db = true)
    (hu : A.units + min da.depth db.depth < cLine) (hq : Q (dataLt da db) s) : wpAny (model prog w) A (oneLt' true a b) Q E s := by
  subst e
  cases db with
  | tuple ys =>
    have hal : alikeAll xs ys = true := by simpa [alike] using h
    cases ra with
    | @tuple l o vs n _ as₁ h1 h2 h3 h4 =>
      cases rb with
      | @tuple l' o' vs' n' _ bs₁ k1 k2 k3 k4 =>
        have n1 : vs.size = xs.length := by simpa using ReadsAll.length _ _ _ h4
        have n2 : vs'.size = ys.length := by simpa using ReadsAll.length _ _ _ k4
        rw [dataLt_tuple, ← firstLt_toks xs ys hal, ← n1, ← n2] at hq
        rw [oneLt'_eq]
        simp only [if_true]
        refine wpAny_bind (wpAny_cRoomFor (room_here hu) ?_)
        obtain ⟨cls, dd, data, sl⟩ := o
        obtain ⟨cls', dd', data', sl'⟩ := o'
        simp only at h2 h3 k2 k3
        subst h2 h3 k2 k3
        refine wpAny_bind (wpAny_callSpecialIfBound?_slot (T := "tuple") ⟨_, h1, rfl⟩ F.slot_tuple_lt (call_meets F.slot_tuple_lt ⟨_, h1, rfl⟩ F.entry_tuple_lt (F.args_tuple_lt_2 _ _) (tuple_ltAt l l' vs vs' n n' dd dd' sl sl' (pairEq xs ys) (fun j => dataLt (xs.getD j .none) (ys.getD j .none))) ⟨h1, k1, fun j j1 j2 => ?_, fun j j1 j2 hj => ?_, ?_⟩))
        · have := eqAt_alikeAll xs ys A.in1 s vs.toList vs'.toList _ _ h4 k4 hal (room_in hu) j (by simpa using j1) (by simpa using j2)
          simpa using this
        · have := rcLt_alikeAll xs ys A.in1 s vs.toList vs'.toList _ _ h4 k4 hal (room_in hu) j (by simpa using j1) (by simpa using j2) hj
          simpa using this
        · exact wpAny_truthy_bool hq
  | _ => exact absurd h (by simp [alike])
theorem SortsAt.tups {vs : List Value} {ds : List PyData} (e : EachIs (fun v d => ∃ as, Reads s.heap v d as) vs ds) (hal : AllAlike ds) (ht : ∀ d ∈ ds, ∃ xs, d = .tuple xs) (hu : ∀ d, d ∈ ds → A.units + d.depth < cLine) : SortsAt prog w A s (dataKind s.heap ds) vs := by
  have room : ∀ {d d' : PyData}, d ∈ ds → A.units + min d.depth d'.depth < cLine := fun {d d'} hd => Nat.lt_of_le_of_lt (Nat.add_le_add_left (Nat.min_le_left _ _) _) (hu d hd)
  have hkeys : ∀ v, v ∈ vs → ∃ a, (dataKind s.heap ds).keyOf v = some a := fun v hv => by
    obtain ⟨d, hd, as, r⟩ := e.left v hv
    exact ⟨_, dataKind_some hal hd r⟩
  obtain ⟨os, hf⟩ := firsts_of e ht
  by_cases ha : (os.all (·.isSome)) = true
  · exact SortsAt.data e hal (.inl (firsts_all hf ha)) hu
  · refine ⟨hkeys, ?_⟩
    by_cases h0 : ((os.toArray[0]?).bind id).isSome = true
    · refine ⟨general', fun E x y a b Q ka kb hq => ?_, fun h2 E Q hq => ?_⟩
      · obtain ⟨d, as, hd, ra, rfl⟩ := dataKind_inv ka
        obtain ⟨d', as', hd', rb, rfl⟩ := dataKind_inv kb
        obtain ⟨xs, rfl⟩ := ht d hd
        exact oneLt_alike (f := false) (fun z => by cases z) ra rb (hal _ hd d' hd') (by simp) (room hd) hq
      · rw [kat_kind_eq, List.mapM_toArray, map_eq_pure_bind]
        refine wpAny_bind (wpAny_bind (firsts_run hf (wpAny_pure ?_)))
        rw [if_neg (by simpa using ha), if_pos h0]
        exact wpAny_pure hq
    · refine ⟨oneType', fun E x y a b Q ka kb hq => ?_, fun h2 E Q hq => ?_⟩
      · obtain ⟨d, as, hd, ra, rfl⟩ := dataKind_inv ka
        obtain ⟨d', as', hd', rb, rfl⟩ := dataKind_inv kb
        obtain ⟨xs, rfl⟩ := ht d hd
        rw [keyLt'_oneType]
        exact oneLt_tuples rfl ra rb (hal _ hd d' hd') (room hd) hq
      · rw [kat_kind_eq, List.mapM_toArray, map_eq_pure_bind]
        refine wpAny_bind (wpAny_bind (firsts_run hf (wpAny_pure ?_)))
        rw [if_neg (by simpa using ha), if_neg h0, oneTypeOnly'_eq, List.mapM_toArray, map_eq_pure_bind]
        refine wpAny_bind (wpAny_bind (wpAny_bind (kas_mapM (r := Value.type "tuple") _ (fun v hv Q' hq => (firsts_types hf v hv).here hq) (wpAny_pure ?_))))
        obtain ⟨v₁, vr, rfl⟩ : ∃ v r, vs = v :: r := by
          cases vs with
          | nil => exact absurd h2 (by simp)
          | cons v r => exact ⟨v, r, rfl⟩
        have h3 : ((v₁ :: vr).map fun _ => Value.type "tuple").toArray[0]? = some (Value.type "tuple") := rfl
        rw [h3]
        have hall2 : (((v₁ :: vr).map fun _ => Value.type "tuple").toArray.all fun x => x == Value.type "tuple") = true := by simp
        simp only [hall2, if_true]
        exact wpAny_pure (wpAny_pure hq)
end
end PySem.W

namespace K03
open PySem PySem.Spec PyProof.Rows L2
/-! ### the order of data -/
def mlt (a b : Mono) : Prop := PySem.W.dataLt (encM a) (encM b) = true
theorem mlt_irr (a : Mono) : ¬ mlt a a := fun h => by
  unfold mlt PySem.W.dataLt at h
  rw [PyProof.Rows.lex_irrefl] at h
  cases h
theorem mlt_trans (a b c : Mono) (h : mlt a b) (h' : mlt b c) : mlt a c := PyProof.Rows.lex_trans _ _ _ h h'
theorem alike_q (p q : Str × Int) : PySem.W.alike (encQ p) (encQ q) = true := rfl
theorem alike_m : ∀ a b : Mono, PySem.W.alikeAll (a.map encQ) (b.map encQ) = true
  | [], _ => by simp [PySem.W.alikeAll]
  | _ :: _, [] => by simp [PySem.W.alikeAll]
  | p :: a, q :: b => by
    rw [List.map_cons, List.map_cons, PySem.W.alikeAll, alike_q, alike_m a b]
    rfl
theorem alikeM (a b : Mono) : PySem.W.alike (encM a) (encM b) = true := by
  unfold encM
  rw [PySem.W.alike]
  exact alike_m a b
theorem alikeT (s t : Mono × Int) : PySem.W.alike (encT s) (encT t) = true := by
  unfold encT
  rw [PySem.W.alike, PySem.W.alikeAll, PySem.W.alikeAll, alikeM]
  rfl
theorem eqvQ {p q : Str × Int} : PyData.eqv (encQ p) (encQ q) = true ↔ p = q := by
  obtain ⟨x, i⟩ := p
  obtain ⟨y, j⟩ := q
  simp [encQ, PyData.eqv, PyData.eqvAll]
theorem eqvMs : ∀ {a b : Mono}, PyData.eqvAll (a.map encQ) (b.map encQ) = true ↔ a = b
  | [], [] => by simp [PyData.eqvAll]
  | [], _ :: _ => by simp [PyData.eqvAll]
  | _ :: _, [] => by simp [PyData.eqvAll]
  | p :: a, q :: b => by
    rw [List.map_cons, List.map_cons, PyData.eqvAll, Bool.and_eq_true, eqvQ, eqvMs, List.cons.injEq]
theorem eqvM {a b : Mono} : PyData.eqv (encM a) (encM b) = true ↔ a = b := by
  unfold encM
  rw [PyData.eqv]
  exact eqvMs
theorem eqvT {s t : Mono × Int} : PyData.eqv (encT s) (encT t) = true ↔ s = t := by
  obtain ⟨a, i⟩ := s
  obtain ⟨b, j⟩ := t
  unfold encT
  simp [PyData.eqv, PyData.eqvAll, eqvM]
theorem eqvPs : ∀ {p q : Poly}, PyData.eqvAll (p.map encT) (q.map encT) = true ↔ p = q
  | [], [] => by simp [PyData.eqvAll]
  | [], _ :: _ => by simp [PyData.eqvAll]
  | _ :: _, [] => by simp [PyData.eqvAll]
  | s :: p, t :: q => by
    rw [List.map_cons, List.map_cons, PyData.eqvAll, Bool.and_eq_true, eqvT, eqvPs, List.cons.injEq]
theorem eqvP {p q : Poly} : PyData.eqv (encP p) (encP q) = true ↔ p = q := by
  unfold encP
  rw [PyData.eqv]
  exact eqvPs
theorem tokM (m : Mono) : PySem.W.keyToks (encM m) = PySem.W.keyToksAll (m.map encQ) := by
  unfold encM
  rw [PySem.W.keyToks]
theorem toksQ (q : Str × Int) (r : List (Int ⊕ List Nat)) : PySem.W.keyToks (encQ q) ++ r = .inl 1 :: .inr q.1.cps.toList :: .inl 1 :: .inl q.2 :: .inl 0 :: r := by
  simp [encQ, PySem.W.keyToks, PySem.W.keyToksAll]
theorem toks_inj : ∀ {a b : Mono}, PySem.W.keyToksAll (a.map encQ) = PySem.W.keyToksAll (b.map encQ) → a = b
  | [], [], _ => rfl
  | [], q :: b, h => by
    rw [List.map_cons, PySem.W.toks_all_cons, List.map_nil, PySem.W.keyToksAll] at h
    simp at h
  | q :: b, [], h => by
    rw [List.map_cons, PySem.W.toks_all_cons, List.map_nil, PySem.W.keyToksAll] at h
    simp at h
  | p :: a, q :: b, h => by
    rw [List.map_cons, List.map_cons, PySem.W.toks_all_cons, PySem.W.toks_all_cons, toksQ, toksQ] at h
    injection h with _ h
    injection h with _ h
    injection h with h1 h
    injection h with _ h
    injection h with h2 h
    injection h with _ h
    injection h1 with h1
    injection h2 with h2
    rw [toks_inj h, Prod.ext (str_ext h1) h2]
theorem mlt_tri (a b : Mono) : mlt a b ∨ a = b ∨ mlt b a := by
  by_cases h1 : mlt a b
  · exact .inl h1
  · by_cases h2 : mlt b a
    · exact .inr (.inr h2)
    · refine .inr (.inl ?_)
      have e := PyProof.Rows.lex_total (O := PyProof.Rows.itemOrd) _ _ (Bool.eq_false_iff.mpr h1) (Bool.eq_false_iff.mpr h2)
      rw [tokM, tokM] at e
      exact toks_inj e

theorem le_total {β : Type} (enc : β → PyData) : PySem.W.TotalLe (PySem.W.dataLe false enc) := by
  have e : ∀ a b, PySem.W.dataLe false enc a b = !PySem.W.dataLt (enc b) (enc a) := fun a b => rfl
  refine ⟨fun a b c h1 h2 => ?_, fun a b => ?_⟩
  · rw [e] at h1 h2 ⊢
    cases z : PySem.W.dataLt (enc c) (enc a) with
    | false => rfl
    | true =>
      rcases PyProof.Rows.lex_negTrans (O := PyProof.Rows.itemOrd) _ (PySem.W.keyToks (enc b)) _ z with y | y
      · rw [show PySem.W.dataLt (enc c) (enc b) = true from y] at h2; cases h2
      · rw [show PySem.W.dataLt (enc b) (enc a) = true from y] at h1; cases h1
  · rw [e, e]
    cases z : PySem.W.dataLt (enc b) (enc a) with
    | false => exact .inl rfl
    | true =>
      refine .inr ?_
      cases y : PySem.W.dataLt (enc a) (enc b) with
      | false => rfl
      | true =>
        have t := PyProof.Rows.lex_trans (O := PyProof.Rows.itemOrd) _ _ _ z y
        rw [PyProof.Rows.lex_irrefl] at t
        cases t
theorem lt_of_le {β : Type} {enc : β → PyData} {a b : β} (h : PySem.W.dataLe false enc a b = true) : PySem.W.dataLt (enc b) (enc a) = false := by
  have e : PySem.W.dataLe false enc a b = !PySem.W.dataLt (enc b) (enc a) := rfl
  rw [e] at h
  cases z : PySem.W.dataLt (enc b) (enc a) with
  | false => rfl
  | true => rw [z] at h; cases h
theorem ltT {s t : Mono × Int} (h : s.1 ≠ t.1) : PySem.W.dataLt (encT s) (encT t) = PySem.W.dataLt (encM s.1) (encM t.1) := by
  unfold encT
  rw [PySem.W.dataLt_tuple]
  refine PySem.W.dataLt_all_no (alikeM _ _) ?_
  cases z : PyData.eqv (encM s.1) (encM t.1) with
  | true => exact absurd (eqvM.mp z) h
  | false => rfl
theorem ltQ {s t : Str × Int} (h : s.1 ≠ t.1) : PySem.W.dataLt (encQ s) (encQ t) = decide (s.1.cps.toList < t.1.cps.toList) := by
  unfold encQ
  rw [PySem.W.dataLt_tuple, PySem.W.dataLt_all_no rfl (by simpa [PyData.eqv] using h), PySem.W.dataLt_str]
abbrev sortT (l : Poly) : Poly := l.mergeSort (PySem.W.dataLe false encT)
abbrev sortQ (l : Mono) : Mono := l.mergeSort (PySem.W.dataLe false encQ)
abbrev sortM (l : List Mono) : List Mono := l.mergeSort (PySem.W.dataLe false encM)
abbrev sortN (l : List Str) : List Str := l.mergeSort (PySem.W.dataLe false PyData.str)
theorem pair_both {α : Type} {R S T : α → α → Prop} : ∀ {l : List α}, l.Pairwise R → l.Pairwise S → (∀ a b, R a b → S a b → T a b) → l.Pairwise T
  | [], _, _, _ => .nil
  | a :: l, h1, h2, f => by
    obtain ⟨a1, b1⟩ := List.pairwise_cons.mp h1
    obtain ⟨a2, b2⟩ := List.pairwise_cons.mp h2
    exact List.pairwise_cons.mpr ⟨fun b hb => f _ _ (a1 b hb) (a2 b hb), pair_both b1 b2 f⟩
theorem sortT_canon {l : Poly} (hn : (keys l).Nodup) (hz : ∀ t ∈ l, t.2 ≠ 0) (hm : MP l) : CanonP mlt (sortT l) := by
  have hp := List.mergeSort_perm l (PySem.W.dataLe false encT)
  refine ⟨?_, fun t ht => hz t (hp.mem_iff.mp ht), fun t ht => hm t (hp.mem_iff.mp ht)⟩
  have h1 : (keys (sortT l)).Nodup := (hp.map fun t : Mono × Int => t.1).nodup_iff.mpr hn
  have h2 : (sortT l).Pairwise fun a b => a.1 ≠ b.1 := List.pairwise_map.mp h1
  refine pair_both (PySem.W.sort_pairwise (le_total encT) l) h2 fun a b r s => ?_
  have z := lt_of_le r
  rw [ltT (Ne.symm s)] at z
  rcases mlt_tri a.1 b.1 with y | y | y
  · exact y
  · exact absurd y s
  · rw [show PySem.W.dataLt (encM b.1) (encM a.1) = true from y] at z; cases z
theorem sortQ_rise {l : Mono} (hn : (l.map (·.1)).Nodup) : (sortQ l).Pairwise fun a b => nlt a.1 b.1 := by
  have hp := List.mergeSort_perm l (PySem.W.dataLe false encQ)
  have h1 : ((sortQ l).map (·.1)).Nodup := (hp.map (·.1)).nodup_iff.mpr hn
  refine pair_both (PySem.W.sort_pairwise (le_total encQ) l) (List.pairwise_map.mp h1) fun a b r s => ?_
  have z := lt_of_le r
  rw [ltQ (Ne.symm s)] at z
  rcases nlt_tri a.1 b.1 with y | y | y
  · exact y
  · exact absurd y s
  · exact absurd y (of_decide_eq_false z)
theorem sortN_rise {l : List Str} (hn : l.Nodup) : (sortN l).Pairwise nlt := by
  have hp := List.mergeSort_perm l (PySem.W.dataLe false PyData.str)
  refine pair_both (PySem.W.sort_pairwise (le_total PyData.str) l) (hp.nodup_iff.mpr hn) fun a b r s => ?_
  have z := lt_of_le r
  rw [PySem.W.dataLt_str] at z
  rcases nlt_tri a b with y | y | y
  · exact y
  · exact absurd y s
  · exact absurd y (of_decide_eq_false z)
theorem sortM_rise {l : List Mono} (hn : l.Nodup) : (sortM l).Pairwise mlt := by
  have hp := List.mergeSort_perm l (PySem.W.dataLe false encM)
  refine pair_both (PySem.W.sort_pairwise (le_total encM) l) (hp.nodup_iff.mpr hn) fun a b r s => ?_
  have z := lt_of_le r
  rcases mlt_tri a b with y | y | y
  · exact y
  · exact absurd y s
  · rw [show PySem.W.dataLt (encM b) (encM a) = true from y] at z; cases z

/-! ### the rules -/
/-- items that sorted can sort -/
def SortOk {β : Type} (enc : β → PyData) (bs : List β) : Prop := PySem.W.AllAlike (bs.map enc) ∧ ((∀ d ∈ bs.map enc, ∃ ys, d = .tuple ys) ∨ PySem.W.Sortable (bs.map enc)) ∧ ∀ b ∈ bs, (enc b).depth ≤ 8
def rSortedD (K : PySem.W.Frag) {β : Type} (enc : β → PyData) : List V → Hp → VK → Prop := fun vs H Q => ∃ (R : β → V → Prop) (a : Addr) (xs : List V) (bs : List β), vs = [.ref a] ∧ SqL K H a xs ∧ Paired R bs xs ∧ (∀ b x, R b x → Dp K H x (enc b)) ∧ SortOk enc bs ∧
  ∀ (ys : List V) (p : Addr), Paired R (bs.mergeSort (PySem.W.dataLe false enc)) ys → H p = none → Q (.ref p) (upd H p (.lst ys))
section
variable {X : Cx}
theorem each_zip {β : Type} {R : β → V → Prop} : ∀ {bs : List β} {xs : List V} {us : List Value}, Paired R bs xs → Vals xs us → PySem.W.EachIs (fun (u : Value) (z : β × V) => R z.1 z.2 ∧ RelV z.2 u) us (bs.zip xs)
  | _, _, _, .nil, .nil => .nil
  | _, _, _, .cons h1 h2, .cons r1 r2 => .cons ⟨h1, r1⟩ (each_zip h2 r2)
theorem each_back {β : Type} {R : β → V → Prop} : ∀ {us : List Value} {zs : List (β × V)}, PySem.W.EachIs (fun (u : Value) (z : β × V) => R z.1 z.2 ∧ RelV z.2 u) us zs → Paired R (zs.map (·.1)) (zs.map (·.2)) ∧ Vals (zs.map (·.2)) us
  | _, _, .nil => ⟨.nil, .nil⟩
  | _, _, .cons h t => ⟨.cons h.1 (each_back t).1, .cons h.2 (each_back t).2⟩
theorem paired_zip {α β : Type} {R : α → β → Prop} : ∀ {l : List α} {m : List β}, Paired R l m → (l.zip m).map (·.1) = l ∧ (l.zip m).length = l.length
  | _, _, .nil => ⟨rfl, rfl⟩
  | _, _, .cons _ t => ⟨by rw [List.zip_cons_cons, List.map_cons, (paired_zip t).1], by rw [List.zip_cons_cons, List.length_cons, List.length_cons, (paired_zip t).2]⟩
theorem call_sortedD {β : Type} {enc : β → PyData} (hu : X.A.units + 64 < cLine) : CallR X (.builtin "sorted") (rSortedD X.K enc) := by
  intro pins s σ H vs us Q I r h
  obtain ⟨R, a, xs, bs, rfl, hs, hp, hR, ⟨hal, hk, hdp⟩, q⟩ := h
  obtain rfl := Vals.ref1 r
  obtain ⟨its, rv, hl, hz⟩ := I.list hs
  have e1 := each_zip hp rv
  obtain ⟨em, el⟩ := paired_zip hp
  have emap : (bs.zip xs).map (fun z => enc z.1) = bs.map enc := by
    rw [← em, List.map_map, em]
    rfl
  have er : PySem.W.EachIs (fun u (z : β × V) => ∃ as, Reads s.heap u (enc z.1) as) its (bs.zip xs) := e1.mono fun u z ⟨h1, h2⟩ => Dp.reads I _ _ _ (hR _ _ h1) h2
  have er' : PySem.W.EachIs (fun u (z : β × V) => ∃ as, Reads (PySem.W.sortingHeap (PySem.W.copyHeap s.heap its) (s.heap.objs.size + 1) its) u (enc z.1) as) its (bs.zip xs) := er.mono fun _ _ ⟨as, r⟩ => ⟨as, PyProof.Rows.Reads.keeps (fun _ _ => PySem.W.sorting_copy_old) r⟩
  have edat := PySem.W.each_map (R := fun v d => ∃ as, Reads (PySem.W.sortingHeap (PySem.W.copyHeap s.heap its) (s.heap.objs.size + 1) its) v d as) (fun z : β × V => enc z.1) er'
  have hb : ∀ d, d ∈ (bs.zip xs).map (fun z => enc z.1) → X.A.in1.in1.units + d.depth < cLine := fun d hd => by
    rw [emap] at hd
    obtain ⟨b, hb, rfl⟩ := List.mem_map.mp hd
    have := hdp b hb
    show X.A.units + 1 + 1 + _ < _
    omega
  have hal' : PySem.W.AllAlike ((bs.zip xs).map fun z => enc z.1) := by rw [emap]; exact hal
  have S : PySem.W.SortsAt X.prog X.w X.A.in1.in1 { s with heap := PySem.W.sortingHeap (PySem.W.copyHeap s.heap its) (s.heap.objs.size + 1) its } (PySem.W.dataKind (PySem.W.sortingHeap (PySem.W.copyHeap s.heap its) (s.heap.objs.size + 1) its) ((bs.zip xs).map fun z => enc z.1)) its := by
    rcases hk with hk | hk
    · exact PySem.W.SortsAt.tups (s := { s with heap := PySem.W.sortingHeap (PySem.W.copyHeap s.heap its) (s.heap.objs.size + 1) its }) edat hal' (by rw [emap]; exact hk) hb
    · exact PySem.W.SortsAt.data (s := { s with heap := PySem.W.sortingHeap (PySem.W.copyHeap s.heap its) (s.heap.objs.size + 1) its }) edat hal' (by rw [emap]; exact hk) hb
  refine PySem.W.sorted_vals hl.isList S (by rw [← rv.length]; exact hz) ?_
  have eo := PySem.W.sortVals_data (enc := fun z : β × V => enc z.1) false e1 er' hal'
  obtain ⟨o1, o2⟩ := each_back eo
  have es : ((bs.zip xs).mergeSort (PySem.W.dataLe false fun z : β × V => enc z.1)).map (·.1) = bs.mergeSort (PySem.W.dataLe false enc) := by
    have := List.map_mergeSort (r := PySem.W.dataLe false fun z : β × V => enc z.1) (s := PySem.W.dataLe false enc) (f := fun z : β × V => z.1) (l := bs.zip xs) (fun _ _ _ _ => rfl)
    rw [em] at this
    exact this
  rw [es] at o1
  obtain ⟨ep, he'⟩ := PyProof.Rows.sortedAll_at s.heap its (PySem.W.sortVals (PySem.W.dataKind (PySem.W.sortingHeap (PySem.W.copyHeap s.heap its) (s.heap.objs.size + 1) its) ((bs.zip xs).map fun z => enc z.1)) false its its).toArray
  refine ⟨.ref _, _, I.laid (a := s.heap.objs.size + 1) (o := .lst (((bs.zip xs).mergeSort (PySem.W.dataLe false fun z : β × V => enc z.1)).map (·.2))) (t' := s.toks) (fun _ _ => PyProof.Rows.sortedAll_old) (Nat.le_succ _) ⟨?_, _, ep, o2, he'⟩, rfl, q _ _ o1 (I.hok.fresh (Nat.le_succ _))⟩
  rw [List.length_map, (List.mergeSort_perm ..).length_eq, el, hp.length]
  exact hz
/-- x >= y of alike data -/
def rGeD (K : PySem.W.Frag) : R2 := fun x y H Q => ∃ d e, Dp K H x d ∧ Dp K H y e ∧ PySem.W.alike d e = true ∧ d ≠ .none ∧ d.depth ≤ 8 ∧ Q (.bl (!PySem.W.dataLt d e)) H
theorem op_geD (hu : X.A.units + 64 < cLine) : OpR X (compareOp .GtE) (rGeD X.K) := by
  intro pins s σ H x y v u Q I rx ry h
  obtain ⟨d, e, hd, he, al, nn, dp, q⟩ := h
  obtain ⟨as, r1⟩ := Dp.reads I d x v hd rx
  obtain ⟨bs, r2⟩ := Dp.reads I e y u he ry
  exact PySem.W.ge_data r1 r2 al nn (by have := Nat.min_le_left d.depth e.depth; omega) ⟨.bl _, H, I, rfl, q⟩
end
end K03
set_option Elab.async false
set_option linter.all false
set_option maxRecDepth 100000
/-! plain facts for the walks -/
namespace K03
open PySem PySem.Spec PyProof.Rows L2
theorem foldl_put : ∀ (p acc : Poly), (keys (acc ++ p)).Nodup → p.foldl (fun acc t => putP acc t.1 t.2) acc = acc ++ p
  | [], acc, _ => by simp
  | t :: p, acc, h => by
    have hk : t.1 ∉ keys acc := fun z => by
      unfold keys at h z
      rw [List.map_append, List.map_cons, List.nodup_append] at h
      exact h.2.2 _ z _ (List.mem_cons_self ..) rfl
    have e : putP acc t.1 t.2 = acc ++ [t] := by
      unfold putP
      rw [if_neg fun z => hk (any_keys.mp z)]
    rw [List.foldl_cons, e, foldl_put p (acc ++ [t]) (by rw [List.append_assoc]; exact h), List.append_assoc]
    rfl
theorem ofTerms_nodup {p : Poly} (h : (keys p).Nodup) : p.foldl (fun acc t => putP acc t.1 t.2) [] = p := by
  have := foldl_put p [] (by simpa using h)
  simpa using this
/-! ### exponents in a dict -/
abbrev nms (m : Mono) : List Str := m.map (·.1)
def getQ (m : Mono) (n : Str) : Option Int := (m.find? fun q => decide (q.1 = n)).map (·.2)
def putQ (m : Mono) (n : Str) (v : Int) : Mono := if (m.any fun q => decide (q.1 = n)) = true then m.map (fun q => if q.1 = n then (q.1, v) else q) else m ++ [(n, v)]
theorem getQ_ex : ∀ (m : Mono) (n : Str), (getQ m n).getD 0 = ex m n
  | [], n => rfl
  | q :: m, n => by
    unfold getQ ex
    by_cases h : q.1 = n
    · simp [h]
    · rw [if_neg h, ← getQ_ex m n]
      simp [getQ, h]
theorem any_nms {m : Mono} {n : Str} : (m.any fun q => decide (q.1 = n)) = true ↔ n ∈ nms m := by
  rw [List.any_eq_true]
  constructor
  · rintro ⟨q, h1, h2⟩
    exact List.mem_map.mpr ⟨q, h1, of_decide_eq_true h2⟩
  · intro h
    obtain ⟨q, h1, h2⟩ := List.mem_map.mp h
    exact ⟨q, h1, decide_eq_true h2⟩
theorem nms_put {m : Mono} {n : Str} {v : Int} : nms (putQ m n v) = if n ∈ nms m then nms m else nms m ++ [n] := by
  unfold putQ
  by_cases h : n ∈ nms m
  · rw [if_pos (any_nms.mpr h), if_pos h]
    unfold nms
    rw [List.map_map]
    refine List.map_congr_left fun q _ => ?_
    show (if q.1 = n then (q.1, v) else q).1 = q.1
    split <;> rfl
  · rw [if_neg (fun z => h (any_nms.mp z)), if_neg h]
    simp [nms]
theorem nodup_putQ {m : Mono} {n : Str} {v : Int} (h : (nms m).Nodup) : (nms (putQ m n v)).Nodup := by
  rw [nms_put]
  split
  · exact h
  · rename_i hn
    rw [List.nodup_append]
    refine ⟨h, by simp, fun a ha b hb => ?_⟩
    simp at hb
    subst hb
    exact fun e => hn (e ▸ ha)
theorem len_putQ (m : Mono) (n : Str) (v : Int) : (putQ m n v).length ≤ m.length + 1 := by
  unfold putQ
  split
  · rw [List.length_map]; omega
  · simp
theorem pos_putQ {m : Mono} {n : Str} {v : Int} (h : ∀ q ∈ m, 1 ≤ q.2) (hv : 1 ≤ v) : ∀ q ∈ putQ m n v, 1 ≤ q.2 := by
  intro q hq
  unfold putQ at hq
  split at hq
  · obtain ⟨r, h1, rfl⟩ := List.mem_map.mp hq
    split
    · exact hv
    · exact h r h1
  · rcases List.mem_append.mp hq with z | z
    · exact h q z
    · simp at z; subst z; exact hv
theorem ex_map_put {n : Str} {v : Int} (x : Str) : ∀ m : Mono, n ∈ nms m → ex (m.map fun q => if q.1 = n then (q.1, v) else q) x = if n = x then v else ex m x
  | [], h => by simp [nms] at h
  | q :: m, h => by
    rw [List.map_cons]
    by_cases hq : q.1 = n
    · rw [if_pos hq]
      show (if q.1 = x then v else ex (m.map _) x) = if n = x then v else if q.1 = x then q.2 else ex m x
      by_cases hx : n = x
      · rw [if_pos hx, if_pos (hq.trans hx)]
      · rw [if_neg hx, if_neg (fun z => hx (hq.symm.trans z)), if_neg (fun z => hx (hq.symm.trans z))]
        by_cases hm : n ∈ nms m
        · rw [ex_map_put x m hm, if_neg hx]
        · have : (m.map fun q => if q.1 = n then (q.1, v) else q) = m := by
            conv => rhs; rw [← List.map_id m]
            refine List.map_congr_left fun r hr => ?_
            rw [if_neg fun z => hm (List.mem_map.mpr ⟨r, hr, z⟩)]
            rfl
          rw [this]
    · rw [if_neg hq]
      have hm : n ∈ nms m := by
        rcases List.mem_cons.mp h with z | z
        · exact absurd z.symm hq
        · exact z
      show (if q.1 = x then q.2 else ex (m.map _) x) = if n = x then v else if q.1 = x then q.2 else ex m x
      rw [ex_map_put x m hm]
      by_cases hx : n = x
      · rw [if_pos hx, if_pos hx, if_neg fun z => hq (z.trans hx.symm)]
      · rw [if_neg hx, if_neg hx]
theorem ex_app (n : Str) (v : Int) (x : Str) : ∀ m : Mono, n ∉ nms m → ex (m ++ [(n, v)]) x = if n = x then v else ex m x
  | [], _ => rfl
  | q :: m, h => by
    have hq : q.1 ≠ n := fun z => h (List.mem_cons.mpr (.inl z.symm))
    show (if q.1 = x then q.2 else ex (m ++ [(n, v)]) x) = if n = x then v else if q.1 = x then q.2 else ex m x
    rw [ex_app n v x m fun z => h (List.mem_cons_of_mem _ z)]
    by_cases hx : n = x
    · rw [if_pos hx, if_pos hx, if_neg fun z => hq (z.trans hx.symm)]
    · rw [if_neg hx, if_neg hx]
theorem ex_putQ (m : Mono) (n : Str) (v : Int) (x : Str) : ex (putQ m n v) x = if n = x then v else ex m x := by
  unfold putQ
  by_cases h : n ∈ nms m
  · rw [if_pos (any_nms.mpr h)]
    exact ex_map_put x m h
  · rw [if_neg fun z => h (any_nms.mp z)]
    exact ex_app n v x m h
theorem ex_perm {m m' : Mono} (h : m.Perm m') (hn : (nms m).Nodup) (x : Str) : ex m x = ex m' x := by
  induction h with
  | nil => rfl
  | cons q _ ih =>
    show (if q.1 = x then q.2 else _) = if q.1 = x then q.2 else _
    rw [ih (List.nodup_cons.mp hn).2]
  | swap p q l =>
    show (if q.1 = x then q.2 else if p.1 = x then p.2 else ex l x) = if p.1 = x then p.2 else if q.1 = x then q.2 else ex l x
    have : q.1 ≠ p.1 := fun z => (List.nodup_cons.mp hn).1 (List.mem_cons.mpr (.inl z))
    by_cases h1 : q.1 = x
    · rw [if_pos h1, if_neg (fun z => this (h1.trans z.symm)), if_pos h1]
    · rw [if_neg h1, if_neg h1]
  | trans h1 _ i1 i2 => rw [i1 hn, i2 ((h1.map (fun q : Str × Int => q.1)).nodup_iff.mp hn)]
/-- a product of monomials, as a dict sorted -/
theorem sortQ_mmul {a b mm : Mono} (ca : CanonM a) (cb : CanonM b) (hn : (nms mm).Nodup) (hp : ∀ q ∈ mm, 1 ≤ q.2) (he : ∀ x, ex mm x = ex (mmul a b) x) : sortQ mm = mmul a b := by
  have hperm := List.mergeSort_perm mm (PySem.W.dataLe false encQ)
  refine canonM_ext ⟨sortQ_rise hn, fun q hq => hp q (hperm.mem_iff.mp hq)⟩ (ca.mul cb) fun x => ?_
  rw [← ex_perm hperm.symm hn x]
  exact he x
/-! ### dicts -/
theorem nodup_filter {p : Poly} {k : Mono × Int → Bool} (h : (keys p).Nodup) : (keys (p.filter k)).Nodup := h.sublist (List.Sublist.map _ List.filter_sublist)
theorem mp_filter {p : Poly} {k : Mono × Int → Bool} (h : MP p) : MP (p.filter k) := fun t ht => h t (List.mem_filter.mp ht).1
theorem mp_take {p : Poly} (i : Nat) (h : MP p) : MP (p.take i) := fun t ht => h t (List.mem_of_mem_take ht)
theorem ev_snoc (p : Poly) (t : Mono × Int) (φ : Mono → Int) : ev (p ++ [t]) φ = ev p φ + t.2 * φ t.1 := by
  rw [ev_app]
  show _ + (t.2 * φ t.1 + 0) = _
  omega
theorem put_new {p : Poly} {m : Mono} {c : Int} (h : m ∉ keys p) : putP p m c = p ++ [(m, c)] := by
  unfold putP
  rw [if_neg fun z => h (any_keys.mp z)]
abbrev nzf (p : Poly) : Poly := p.filter fun t => decide (t.2 ≠ 0)
/-- what checked hands back -/
theorem checked_canon {p : Poly} (hn : (keys p).Nodup) (hm : MP p) : CanonP mlt (sortT (nzf p)) ∧ Eqv (sortT (nzf p)) p := by
  refine ⟨sortT_canon (nodup_filter hn) (fun t ht => of_decide_eq_true (List.mem_filter.mp ht).2) (mp_filter hm), fun φ => ?_⟩
  rw [ev_perm (List.mergeSort_perm ..) φ, ev_nonzero]
theorem nzf_len {p E : Poly} (hn : (keys p).Nodup) (hm : MP p) (h : Eqv p E) : (nzf p).length ≤ E.length := by
  obtain ⟨c, e⟩ := checked_canon hn hm
  have := len_le mlt_irr c (e.trans h)
  rwa [(List.mergeSort_perm ..).length_eq] at this
theorem coef_small {p E : Poly} (hn : (keys p).Nodup) (hm : MP p) (h : Eqv p E) : ∀ t ∈ p, t.2.natAbs ≤ nrm E := fun t ht => by
  obtain ⟨c, e⟩ := checked_canon hn hm
  by_cases hz : t.2 = 0
  · rw [hz]; exact Nat.zero_le _
  · have h1 : t ∈ sortT (nzf p) := (List.mergeSort_perm ..).mem_iff.mpr (List.mem_filter.mpr ⟨ht, decide_eq_true hz⟩)
    exact Nat.le_trans (coef_le_nrm h1) (nrm_le mlt_irr c (e.trans h))
end K03
set_option Elab.async false
set_option linter.all false
set_option maxRecDepth 100000
set_option maxHeartbeats 4000000
/-! more rules: walks over a list or a tuple, unpacking either; tuple(list) and () with a known place; dict(monomial); max(.., default=..); calls by keywords alone -/
namespace K03
open PySem PySem.Spec PyProof.Rows L2
abbrev SqX (K : PySem.W.Frag) (H : Hp) (a : Addr) (xs : List V) : Prop := SqL K H a xs ∨ SqT K H a xs
theorem SqX.keep {K : PySem.W.Frag} {H H' : Hp} {a : Addr} {xs : List V} (h : SqX K H a xs) (e : Keep H H') : SqX K H' a xs := h.elim (fun h => .inl (sqL_keep e h)) fun h => .inr (sqT_keep e h)
/-- what a loop asks of the walked thing -/
abbrev ForB (J : It) (g : TG) (tb : TS) (D : Ends) (σ : L2.St) (H1 : Hp) : Prop := ∃ W : Nat → Nat → L2.St → Hp → Prop, (∃ m, W 0 m σ H1) ∧ ∀ i m σ H, W i m σ H →
  (J.stop i H ∧ D.nx σ H) ∨ (J.go i H ∧ ∃ N : L2.St → Hp → Prop, (∀ σ' H', N σ' H' → ∃ m', m' < m ∧ W (i + 1) m' σ' H') ∧ ∀ x H', J.yld i H x H' → g x σ H' fun σ2 H2 => tb { D with nx := N, ct := N, bk := D.nx } σ2 H2)
abbrev LcB (J : It) (g : TG) (tt : TT) (te : TE) (vs : List Nat) (σ : L2.St) (D : Addr) (Qd : Hp → Prop) (H1 : Hp) : Prop := ∃ W : Nat → Nat → Hp → Prop, (∃ m, W 0 m (upd H1 D (.lst []))) ∧ ∀ i m H, W i m H →
  (J.stop i H ∧ Qd H) ∨ (J.go i H ∧ ∃ Nx : Hp → Prop, (∀ H', Nx H' → ∃ m', m' < m ∧ W (i + 1) m' H') ∧ ∀ x H', J.yld i H x H' → g x (wipe σ vs) H' fun σ2 H2 => wipe σ2 vs = wipe σ vs ∧ tt σ2 H2 fun b H3 =>
    if b = true then te σ2 H3 fun y H4 => ∃ acc, H4 D = some (.lst acc) ∧ acc.length < sizeLine ∧ Nx (upd H4 D (.lst (acc ++ [y]))) else Nx H3)
def iSeq (K : PySem.W.Frag) (tl : TE) : TI := fun σ H R => tl σ H fun x H1 => ∃ a, x = .ref a ∧ ((∃ xs, SqL K H1 a xs ∧ (xs.length ≤ sizeLine → R (Itl K a) H1)) ∨ (∃ xs, SqT K H1 a xs ∧ (xs.length ≤ sizeLine → R (Itt K a) H1)))
def gSeq (K : PySem.W.Frag) (n : Nat) (t : TGs) : TG := fun v σ H Q => ∃ a xs, v = .ref a ∧ SqX K H a xs ∧ xs.length = n ∧ t xs σ H Q
def rTupZ (K : PySem.W.Frag) : List V → Hp → VK → Prop := fun xs H Q => ∃ p ys, xs = [.ref p] ∧ SqL K H p ys ∧ ∀ l o, H l = none → Plain (upd H l o) l ys → ¬ Soft o → Q (.ref l) (upd H l o)
def tTup0 : TE := fun _ H Q => ∀ l o, H l = none → Plain (upd H l o) l [] → ¬ Soft o → Q (.ref l) (upd H l o)
def kvQ (q : Str × Int) : Key × V := (.inr q.1, .int q.2)
def rDictMK (K : PySem.W.Frag) : List V → Hp → VK → Prop := fun xs H Q => ∃ b m, xs = [.ref b] ∧ MK K H b m ∧ ∀ a, H a = none → Q (.ref a) (upd H a (.dK (mergeK [] (m.map kvQ))))
section
variable {X : Cx} {tg : Expr} {pos : Pos}
theorem pi_seq {l : Expr} {tl : TE} (hl : PE X l tl) : PI X tg l (iSeq X.K tl) := by
  refine ⟨fun pins s σ H R I h => ?_⟩
  refine thn (hl.run pins s σ H _ I h) fun v s1 ⟨x, H1, I1, r1, q1⟩ => ?_
  obtain ⟨a, e, q1⟩ := q1
  subst e
  cases r1
  have fp : ∀ b ∈ [s1.heap.objs.size], FpOk X pins H1 b := fun b hb => by
    have e : b = s1.heap.objs.size := by simpa using hb
    subst e
    exact I1.fpOk (Nat.le_refl _) (I1.hok.fresh (Nat.le_refl _))
  rcases q1 with ⟨xs, hq, q⟩ | ⟨xs, hq, q⟩
  · obtain ⟨its, rv, p, hz⟩ := I1.list hq
    refine wpAny_pyIter_list p.isList ?_
    exact ⟨s1.heap.objs.size, [s1.heap.objs.size], _, _, H1, rfl, I1.kept (t' := s1.toks) fun b o e => Heap.get?_push_of_some _ e, turn_list a _, ⟨_, Heap.get?_push_size _ rfl, rfl, rfl⟩, fp, q hz⟩
  · obtain ⟨its, rv, p, hz⟩ := I1.tuple hq
    refine wpAny_pyIter_tuple (show s1.heap.IsTuple a its.toArray from p) ?_
    exact ⟨s1.heap.objs.size, [s1.heap.objs.size], _, _, H1, rfl, I1.kept (t' := s1.toks) fun b o e => Heap.get?_push_of_some _ e, turn_tuple a _, ⟨_, Heap.get?_push_size _ rfl, rfl, rfl⟩, fp, q hz⟩
theorem pg_seq {es : List Expr} {k : Nat} {t : TGs} {n : Nat} (hc : X.calm = true) (h : PGs X es t)
    (hn : (assignEach es X.env).length = n := by rfl) (hst : (assignEach es X.env).findIdx? (·.1) = none := by rfl) : PG X (.Tuple es k pos) (gSeq X.K n t) := by
  refine ⟨fun pins s σ H v u Q I r hw => ?_⟩
  obtain ⟨a, xs, e1, hq, hl, hw⟩ := hw
  rcases hq with hq | hq
  · exact (pg_unl hc h hn hst).run pins s σ H v u Q I r ⟨a, xs, e1, hq, hl, hw⟩
  · exact (pg_tup hc h hn hst).run pins s σ H v u Q I r ⟨a, xs, e1, hq, hl, hw⟩
theorem call_tupleZ : CallR X (.type "tuple") (rTupZ X.K) := by
  intro pins s σ H xs us Q I r h
  obtain ⟨p, ys, rfl, hq, q⟩ := h
  obtain ⟨u, rfl, rx⟩ := vals1 r
  cases rx
  obtain ⟨its, r', pl, hz⟩ := I.list hq
  have hlen := r'.length
  refine call_tuple_list pl.isList (fun h' kp => ?_) (by simp only [List.size_toArray] <;> omega)
  have I1 : Inv X pins σ H { s with heap := h' } := I.kept (t' := s.toks) kp
  have I2 : Inv X pins σ (upd H h'.objs.size (.frz { cls := .type "tuple", data := .seq its.toArray } (.tup ys))) { s with heap := h'.push { cls := .type "tuple", data := .seq its.toArray } } :=
    I1.laid (t' := s.toks) (fun b o e => Heap.get?_push_of_some _ e) (Nat.le_refl _) (show ObjOk X.prog X.w _ _ _ (.frz _ (.tup ys)) from ⟨Heap.get?_push_size _ rfl, hz, its, r', IsTup.new _ _⟩)
  exact ⟨.ref h'.objs.size, _, I2, rfl, q _ _ (I1.hok.fresh (Nat.le_refl _)) ⟨_, upd_same, rfl⟩ fun z => z⟩
theorem pe_tup0 {x1} : PE X (.Tuple [] x1 pos) tTup0 := by
  refine ⟨fun pins s σ H Q I hq => ?_⟩
  refine wpAny_Tuple_spliced (Calls.spliced_nil ⟨Nat.zero_le _, ?_⟩)
  have hf : H s.heap.objs.size = none := I.hok.fresh (Nat.le_refl _)
  refine ⟨.ref s.heap.objs.size, upd H s.heap.objs.size (.frz { cls := .type "tuple", data := .seq #[] } (.tup [])), I.laid (t' := s.toks) (fun b u e => Heap.get?_push_of_some _ e) (Nat.le_refl _) ?_, rfl, hq _ _ hf ⟨_, upd_same, rfl⟩ fun z => z⟩
  exact ⟨Heap.get?_push_size _ rfl, Nat.zero_le _, [], .nil, ⟨_, Heap.get?_push_size _ rfl, rfl, _, rfl⟩⟩
/-- the values of a monomial: their tuples, names, numbers -/
theorem mono_read {pins : List (Addr × Obj)} {σ : L2.St} {H : Hp} {s : Shared} (I : Inv X pins σ H s) : ∀ {m : Mono} {vs : List V} {us : List Value}, DpAll X.K H vs (m.map encQ) → Vals vs us →
    ∃ rows : List (Addr × Value × Key × Value), us = rows.map (fun r => Value.ref r.1) ∧ (∀ r ∈ rows, PairAt s.heap r.1 r.2.1 r.2.2.2 ∧ keyIs r.2.2.1 r.2.1 = true) ∧ KV (m.map kvQ) (rows.map (·.2.2)) ∧ rows.length = m.length
  | [], _, _, h, r => by
    cases h
    cases r
    exact ⟨[], rfl, (fun _ hr => by cases hr), .nil, rfl⟩
  | t :: p, _, _, h, r => by
    rw [List.map_cons] at h
    cases h with
    | cons h1 h2 =>
      cases r with
      | cons r1 r2 =>
        obtain ⟨rows, e1, e2, e3, e4⟩ := mono_read I h2 r2
        obtain ⟨c, b, rfl, hs, hm⟩ := h1.tupI
        obtain rfl := (show _ = Value.ref c from r1)
        obtain ⟨x, y, rfl, k1, k2⟩ := hm.two
        cases k1.strI
        cases k2.intI
        obtain ⟨its, rv, ht, _⟩ := I.tuple hs
        obtain ⟨u1, u2, rfl, q1, q2⟩ := vals2 rv
        refine ⟨(c, u1, .inr t.1, u2) :: rows, by rw [e1]; rfl, fun r hr => ?_, .cons ⟨rfl, q2⟩ e3, by rw [List.length_cons, List.length_cons, e4]⟩
        rcases List.mem_cons.mp hr with e | e
        · subst e
          exact ⟨.inl ht, kV_is (P := X.prog) (w := X.w) (k := .inr t.1) q1⟩
        · exact e2 r e
theorem call_dict_mk (hc : X.calm = true) : CallR X (.type "dict") (rDictMK X.K) := by
  intro pins s σ H xs us Q I r h
  obtain ⟨b, m, rfl, ⟨vs, ⟨o, ho, hdn⟩, ha⟩, q⟩ := h
  obtain ⟨u, rfl, ru⟩ := vals1 r
  obtain rfl : u = Value.ref b := ru
  obtain ⟨hg, hz, its, rv, ⟨o', ho', hcl, n, hdat⟩⟩ := (show ObjOk X.prog X.w H s.heap b (.frz o (.tup vs)) from I.hok b _ ho)
  rw [hg] at ho'
  cases ho'
  obtain ⟨rows, e1, e2, e3, e4⟩ := mono_read I ha rv
  have hvl : vs.length = rows.length := by rw [rv.length, e1, List.length_map]
  let ps : List (Value × Value) := rows.map fun r => (r.2.1, r.2.2.2)
  have hps : ps.length = rows.length := List.length_map _
  have items : PairItems s.heap its.toArray (fun j => ((rows[j]?).map (·.1)).getD 0) ps := by
    refine ⟨by rw [hps, List.size_toArray, e1, List.length_map], fun j k v hj => ?_⟩
    have hj' : (rows.map fun r => (r.2.1, r.2.2.2))[j]? = some (k, v) := hj
    rw [List.getElem?_map] at hj'
    cases q : rows[j]? with
    | none => rw [q] at hj'; cases hj'
    | some r =>
      rw [q] at hj'
      have e : (r.2.1, r.2.2.2) = (k, v) := Option.some.inj hj'
      injection e with ek ev
      subst ek ev
      have ej : ((rows[j]?).map (·.1)).getD 0 = r.1 := by rw [q]; rfl
      show its.toArray[j]? = some (.ref (((rows[j]?).map (·.1)).getD 0)) ∧ PairAt s.heap (((rows[j]?).map (·.1)).getD 0) _ _
      rw [ej]
      refine ⟨?_, (e2 r (List.mem_of_getElem? q)).1⟩
      rw [e1, List.getElem?_toArray, List.getElem?_map, q]
      rfl
  refine PySem.call_dict_pairs (knd := mixKind X.prog X.w) (kvs := rows.map (·.2.2)) (PairArg.tuple b its.toArray (fun j => ((rows[j]?).map (·.1)).getD 0) ps) (I.ok.hd hc) ⟨⟨o, n, hg, hcl, hdn, hdat⟩, items⟩ ⟨by rw [List.length_map, hps], fun i key v hr => ?_⟩ (by rw [hps, ← hvl]; exact hz) fun h' tk hd' hk => ?_
  · have hj' : (rows.map fun r => (r.2.1, r.2.2.2))[i]? = some (key, v) := hr
    rw [List.getElem?_map] at hj'
    cases q : rows[i]? with
    | none => rw [q] at hj'; cases hj'
    | some r =>
      rw [q] at hj'
      have e : (r.2.1, r.2.2.2) = (key, v) := Option.some.inj hj'
      injection e with ek ev
      subst ek ev
      exact ⟨r.2.2.1, by rw [List.getElem?_map, q]; rfl, (e2 r (List.mem_of_getElem? q)).2⟩
  · have hm : (s.heap.objs.size == sysModules) = false := beq_eq_false_iff_ne.mpr (Nat.ne_of_gt I.big)
    have hlen : (mergeK [] (m.map kvQ)).length ≤ sizeLine := by
      refine Nat.le_trans (length_mergeK _ []) ?_
      rw [List.length_nil, Nat.zero_add, List.length_map, ← e4, ← hvl]
      exact hz
    exact ⟨.ref s.heap.objs.size, upd H s.heap.objs.size (.dK (mergeK [] (m.map kvQ))), I.laid (t' := tk) (fun b o e => hk b o (by simp) e) (Nat.le_refl _) (show ObjOk X.prog X.w _ _ _ (.dK (mergeK [] (m.map kvQ))) from ⟨hlen, hm, merged [] (rows.map (·.2.2)), KV.merge e3 .nil, hd'⟩), rfl, q _ (I.hok.fresh (Nat.le_refl _))⟩

/-! ### max(xs, default=d) of ints -/
theorem maxD_ints : ∀ (ns : List Int) (n : Int), ∃ M, PySem.W.maxD (.int n) (ns.map PyData.int) = .int M ∧ M ∈ n :: ns ∧ ∀ k ∈ n :: ns, k ≤ M
  | [], n => ⟨n, rfl, by simp, fun k hk => by simp at hk; omega⟩
  | k :: ns, n => by
    have e : PySem.W.maxD (.int n) ((k :: ns).map PyData.int) = PySem.W.maxD (.int (if n < k then k else n)) (ns.map PyData.int) := by
      unfold PySem.W.maxD
      rw [List.map_cons, List.foldl_cons, PySem.W.dataLt_int]
      by_cases h : n < k
      · rw [decide_eq_true h, if_pos rfl, if_pos h]
      · rw [decide_eq_false h, if_neg (by simp), if_neg h]
    obtain ⟨M, e1, e2, e3⟩ := maxD_ints ns (if n < k then k else n)
    refine ⟨M, e.trans e1, ?_, fun j hj => ?_⟩
    · rcases List.mem_cons.mp e2 with z | z
      · by_cases h : n < k
        · rw [if_pos h] at z; simp [z]
        · rw [if_neg h] at z; simp [z]
      · exact List.mem_cons_of_mem _ (List.mem_cons_of_mem _ z)
    · have h0 := e3 _ (List.mem_cons_self ..)
      rcases List.mem_cons.mp hj with z | z
      · subst z
        by_cases h : j < k
        · rw [if_pos h] at h0; omega
        · rw [if_neg h] at h0; exact h0
      · rcases List.mem_cons.mp z with z | z
        · subst z
          by_cases h : n < j
          · rw [if_pos h] at h0; exact h0
          · rw [if_neg h] at h0; omega
        · exact e3 j (List.mem_cons_of_mem _ z)
def rMaxD (K : PySem.W.Frag) : List V → List V → Hp → VK → Prop := fun vs zs H Q => ∃ (a : Addr) (ns : List Int) (d : Int), vs = [V.ref a] ∧ zs = [.int d] ∧ SqL K H a (ns.map V.int) ∧ (ns = [] → Q (.int d) H) ∧ ∀ m ∈ ns, (∀ n ∈ ns, n ≤ m) → Q (.int m) H
theorem dp_ints {K : PySem.W.Frag} {H : Hp} : ∀ ns : List Int, DpAll K H (ns.map V.int) (ns.map PyData.int)
  | [] => .nil
  | n :: ns => .cons (.int n) (dp_ints ns)
theorem depth_ints : ∀ ns : List Int, PyData.depthAll (ns.map PyData.int) ≤ 1
  | [] => by simp [PyData.depthAll]
  | n :: ns => by
    have := depth_ints ns
    simp [PyData.depthAll, PyData.depth]
    omega
theorem call_maxD (hc : X.calm = true) (hu : X.A.units + 64 < cLine) : CallRK X (.builtin "max") [Str.ofString "default"] (rMaxD X.K) := by
  intro pins s σ H vs zs us ws Q I r rz h
  obtain ⟨a, ns, d, rfl, rfl, hs, q0, q1⟩ := h
  obtain rfl := Vals.ref1 r
  obtain ⟨w1, rfl, e1⟩ := vals1 rz
  obtain ⟨its, rv, hl, hz⟩ := I.list hs
  obtain ⟨as, hr⟩ := Dp.readsAll I _ _ _ (dp_ints ns) rv
  have hal : PySem.W.AlikeAll (ns.map PyData.int) := by
    refine ⟨fun x hx y hy => ?_, fun x hx => by obtain ⟨i, _, rfl⟩ := List.mem_map.mp hx; simp⟩
    obtain ⟨i, _, rfl⟩ := List.mem_map.mp hx
    obtain ⟨j, _, rfl⟩ := List.mem_map.mp hy
    rfl
  refine PySem.W.max_list_default (vs := its.toArray) (I.ok.hd hc) hl.isList (by simpa using hr) hal (by have := depth_ints ns; omega) (fun e h' tk hk => ?_) fun y ys i v h' tk bs e hi hrd hk => ?_
  · have e' : ns = [] := by cases ns with
      | nil => rfl
      | cons _ _ => cases e
    exact ⟨.int d, H, I.kept hk, e1, q0 e'⟩
  · cases ns with
    | nil => cases e
    | cons n ns =>
      rw [List.map_cons] at e
      injection e with ey eys
      subst ey eys
      obtain ⟨M, m1, m2, m3⟩ := maxD_ints ns n
      rw [m1] at hrd
      cases hrd
      exact ⟨.int M, H, I.kept hk, ⟨_, rfl⟩, q1 M m2 m3⟩
/-! ### f(k = v, ..) -/
theorem pe_callN0 {k n : Nat} {f : Addr} {fd : FuncData} {ps ks : List Str} {sp : Sp} {g : List Value → List Value → List Value} {gV : List V → List V → List V} {CX : CXT} {E : XK} {x : Str} {p : Pos} {kws : List Keyword} {tk : TA}
    (F : FnOk X.prog X.w X.K X.mg X.base CX k f fd ps sp) (hr : Room k X.A) (hg : Gl X x) (hm : X.mg x = some (.ref f)) (hk : PySem.W.keepIn X.K (.ref f) = true) (hb : KBn X.K fd ps 0 ks g gV) (hx : Passes CX X E)
    (hkw : PK X kws tk) (hall : (backToKw pos (keywordEach kws X.env)).all (·.1.isSome) = true := by rfl) (hks : (backToKw pos (keywordEach kws X.env)).filterMap (·.1) = ks := by rfl)
    (hdb : (x == ("__debug__" : Str)) = false := by decide) (hpl : ((backTo pos (starEach [] X.env)).any (·.1) || (backToKw pos (keywordEach kws X.env)).any (·.1.isNone)) = false := by rfl) :
    PE X (.Call (.Name x p) [] kws pos) (tCallN 0 ks.length sp gV E tNil tk) := by
  refine ⟨fun pins s σ H Q I h => ?_⟩
  refine wpAny_Call_Name_kw (ld_glob I hg hm ?_ hdb)
  refine PySem.W.callWith_KW0 (h₀ := X.base) I.ok.mod.kin hk hall (thn (hkw.run pos pins s σ H _ I h) fun ws s2 ⟨zs, H2, I2, rz, l1, l2, q2⟩ => ⟨I2.kIn, ?_⟩) hpl
  rw [hks]
  exact run_fnN F hr hb hx I2 .nil rz l1 l2 q2
end
end K03
set_option Elab.async false
set_option linter.all false
namespace K03
open PySem PySem.Spec PyProof.Rows L2
def top (i : Nat) : Stmt := PySem.Challenge.pw_figurehold_k03_whole_ring.main.body.getD i (.Pass ⟨0, 0, 0, 0⟩)
abbrev FnP (K : PySem.W.Frag) (x : Str) (i : Nat) (f : Addr) (fd : FuncData) : Prop := FunD K x x (defArgs (top i)) (defBody (top i)) (defScope (top i)) [] [] f fd
end K03
set_option Elab.async false
set_option linter.all false
set_option maxRecDepth 100000
set_option maxHeartbeats 0
namespace K03
open PySem PySem.Spec PyProof.Rows L2
def defD (x : Str) (i : Nat) : He.DefD := ⟨(x, none), x, x, defArgs (top i), defBody (top i), defScope (top i), [], []⟩
def fn : List He.DefD := ([defD "frozen" 7, defD "least_with" 8, defD "is_great" 9, defD "checked" 10, defD "counts_of" 11, defD "monomial_product" 12, defD "add_times" 13, defD "counts_product" 14, defD "counts_power" 15, defD "constant" 16, defD "variable" 17, defD "added" 18, defD "less" 19, defD "multiplied" 20, defD "power" 21, defD "variables" 22] : List He.DefD) ++ ([defD "degree_in" 23, defD "_law_tape" 25, defD "_law_load" 26, defD "_law_draw" 27, defD "_law_same" 28, defD "_law_signs" 29, defD "_law_factor" 30, defD "_law_table" 31, defD "_law_poly" 32, defD "_law_handed" 33, defD "_law_is_poly" 34, defD "_law_at" 35, defD "_law_alike" 36, defD "_law_sums_right" 37, defD "_law_products_right" 38, defD "_law_powers_right" 39] : List He.DefD) ++ ([defD "_law_numbers_right" 40, defD "law" 41] : List He.DefD)
def fa : List He.Fa := ([.int "MOST_TERMS" 2000, .int "MOST_FIGURES" 200, .int "PLAIN" 1000000000000, .free "tuple", .free "range", .free "sorted", .free "len", .free "any", .free "abs", .free "dict", .free "list", .free "max", .free "int", .free "isinstance", .free "bool", .free "str"] : List He.Fa) ++ ([.glo "frozen", .glo "least_with", .glo "is_great", .glo "checked", .glo "counts_of", .glo "monomial_product", .glo "add_times", .glo "counts_product", .glo "counts_power", .glo "constant", .glo "variable", .glo "added", .glo "less", .glo "multiplied", .glo "power", .glo "variables"] : List He.Fa) ++ ([.glo "degree_in", .glo "_law_tape", .glo "_law_load", .glo "_law_draw", .glo "_law_same", .glo "_law_signs", .glo "_law_factor", .glo "_law_table", .glo "_law_poly", .glo "_law_handed", .glo "_law_is_poly", .glo "_law_at", .glo "_law_alike", .glo "_law_sums_right", .glo "_law_products_right", .glo "_law_powers_right"] : List He.Fa) ++ ([.glo "_law_numbers_right", .glo "law"] : List He.Fa)
def loose : List PySem.Str := (["FigureError", "TooMany", "MOST_TERMS", "MOST_FIGURES", "PLAIN", "frozen", "least_with", "is_great", "checked", "counts_of", "monomial_product", "add_times", "counts_product", "counts_power", "constant", "variable"] : List PySem.Str) ++ (["added", "less", "multiplied", "power", "variables", "degree_in", "_law_tape", "_law_load", "_law_draw", "_law_same", "_law_signs", "_law_factor", "_law_table", "_law_poly", "_law_handed", "_law_is_poly"] : List PySem.Str) ++ (["_law_at", "_law_alike", "_law_sums_right", "_law_products_right", "_law_powers_right", "_law_numbers_right"] : List PySem.Str)
abbrev R : PySem.W.OpenRow := PySem.W.OpenLaw.row PySem.Challenge.rw_figurehold_k03_whole_ring
abbrev hk : PySem.W.Hook := He.hookD 4 fa fn
def ob (s : PySem.W.SharedT) : He.AlD := He.obsDG 4 fa fn (HandSHeadRun.getT s)
theorem ob_eq (s : PySem.W.SharedT) : ob s = hk.obs s.abs := He.obsDG_eq (HandSHeadRun.getT_eq s)
theorem run (w : World) : HandSHeadRun.RunEq R (PySem.W.view R.prog [41]) hk ob 4000 loose w := by
  intro os
  kernel_rfl
end K03
set_option Elab.async false
set_option linter.all false
set_option maxRecDepth 100000
set_option maxHeartbeats 4000000
/-! walks over a list or a tuple; polynomials of tuples or of lists -/
namespace K03
open PySem PySem.Spec PyProof.Rows L2
theorem SqX.of_l {K : PySem.W.Frag} {H : Hp} {a : Addr} {xs : List V} (h : H a = some (.lst xs)) : SqL K H a xs := .inl (.inl h)
theorem SqX.of_t {K : PySem.W.Frag} {H : Hp} {a : Addr} {xs : List V} (h : H a = some (.tup xs)) : SqT K H a xs := .inl (.inl h)
section
variable {K : PySem.W.Frag} {a : Addr} {xs : List V} {H H0 H' : Hp}
theorem for_seq {g : TG} {tb : TS} {D : Ends} {σ : L2.St} (h : SqX K H0 a xs) (e0 : Keep H0 H) (Pv : Nat → L2.St → Hp → Prop) (h0 : xs.length ≤ sizeLine → Pv 0 σ H) (hl : ∀ i σ H', Pv i σ H' → Keep H0 H')
    (hs : ∀ i x σ H, xs.length ≤ sizeLine → i < xs.length → xs[i]? = some x → Pv i σ H → g x σ H fun σ2 H2 => tb { D with nx := Pv (i + 1), ct := Pv (i + 1), bk := D.nx } σ2 H2) (hd : ∀ σ H, Pv xs.length σ H → D.nx σ H) :
    (∃ xs, SqL K H a xs ∧ (xs.length ≤ sizeLine → ForB (Itl K a) g tb D σ H)) ∨ (∃ xs, SqT K H a xs ∧ (xs.length ≤ sizeLine → ForB (Itt K a) g tb D σ H)) := by
  have lt : ∀ {i : Nat} {x : V}, xs[i]? = some x → i < xs.length := fun e => (List.getElem?_eq_some_iff.mp e).1
  rcases h with h | h
  · exact .inl ⟨xs, sqL_keep e0 h, fun hz => for_list (xs := xs) Pv (h0 hz) (fun i σ H' _ p => sqL_keep (hl i σ H' p) h) (fun i x σ H e p => hs i x σ H hz (lt e) e p) hd⟩
  · exact .inr ⟨xs, sqT_keep e0 h, fun hz => for_tup (xs := xs) Pv (h0 hz) (fun i σ H' _ p => sqT_keep (hl i σ H' p) h) (fun i x σ H e p => hs i x σ H hz (lt e) e p) hd⟩
theorem lc_seq {g : TG} {tt : TT} {te : TE} {vs : List Nat} {σ : L2.St} {Qd : Addr → Hp → Prop} (h : SqX K H0 a xs) (e0 : Keep H0 H) (Pv : Addr → Nat → Hp → Prop) (h0 : ∀ D, H D = none → Pv D 0 (upd H D (.lst []))) (hl : ∀ D i H', H D = none → Pv D i H' → Keep H0 H')
    (hs : ∀ D i x H', H D = none → xs.length ≤ sizeLine → i < xs.length → xs[i]? = some x → Pv D i H' → g x (wipe σ vs) H' fun σ2 H2 => wipe σ2 vs = wipe σ vs ∧ tt σ2 H2 fun b H3 =>
      if b = true then te σ2 H3 fun y H4 => ∃ acc, H4 D = some (.lst acc) ∧ acc.length < sizeLine ∧ Pv D (i + 1) (upd H4 D (.lst (acc ++ [y]))) else Pv D (i + 1) H3) (hd : ∀ D H', H D = none → Pv D xs.length H' → Qd D H') :
    (∃ xs, SqL K H a xs ∧ (xs.length ≤ sizeLine → ∀ D, H D = none → LcB (Itl K a) g tt te vs σ D (Qd D) H)) ∨ (∃ xs, SqT K H a xs ∧ (xs.length ≤ sizeLine → ∀ D, H D = none → LcB (Itt K a) g tt te vs σ D (Qd D) H)) := by
  have lt : ∀ {i : Nat} {x : V}, xs[i]? = some x → i < xs.length := fun e => (List.getElem?_eq_some_iff.mp e).1
  rcases h with h | h
  · exact .inl ⟨xs, sqL_keep e0 h, fun hz D hD => lc_list (xs := xs) (Pv D) (h0 D hD) (fun i H' _ p => sqL_keep (hl D i H' hD p) h) (fun i x H e p => hs D i x H hD hz (lt e) e p) fun H' p => hd D H' hD p⟩
  · exact .inr ⟨xs, sqT_keep e0 h, fun hz D hD => lc_tup (xs := xs) (Pv D) (h0 D hD) (fun i H' _ p => sqT_keep (hl D i H' hD p) h) (fun i x H e p => hs D i x H hD hz (lt e) e p) fun H' p => hd D H' hD p⟩
end
/-! ### the forms -/
def QAt (K : PySem.W.Frag) (H : Hp) (q : Str × Int) (x : V) : Prop := ∃ a, x = .ref a ∧ SqX K H a [.str q.1, .int q.2]
def MAt (K : PySem.W.Frag) (H : Hp) (m : Mono) (x : V) : Prop := ∃ a xs, x = .ref a ∧ SqX K H a xs ∧ Paired (QAt K H) m xs
def TAt (K : PySem.W.Frag) (H : Hp) (t : Mono × Int) (x : V) : Prop := ∃ a y, x = .ref a ∧ SqX K H a [y, .int t.2] ∧ MAt K H t.1 y
def PAt (K : PySem.W.Frag) (H : Hp) (v : V) (p : Poly) : Prop := ∃ a xs, v = .ref a ∧ SqX K H a xs ∧ Paired (TAt K H) p xs
section
variable {K : PySem.W.Frag} {H H' : Hp}
theorem QAt.keep {q : Str × Int} {x : V} (h : QAt K H q x) (e : Keep H H') : QAt K H' q x := let ⟨a, h1, h2⟩ := h; ⟨a, h1, h2.keep e⟩
theorem MAt.keep {m : Mono} {x : V} (h : MAt K H m x) (e : Keep H H') : MAt K H' m x := let ⟨a, xs, h1, h2, h3⟩ := h; ⟨a, xs, h1, h2.keep e, Paired.mapP h3 fun _ _ z => z.keep e⟩
theorem TAt.keep {t : Mono × Int} {x : V} (h : TAt K H t x) (e : Keep H H') : TAt K H' t x := let ⟨a, y, h1, h2, h3⟩ := h; ⟨a, y, h1, h2.keep e, h3.keep e⟩
theorem PAt.keep {v : V} {p : Poly} (h : PAt K H v p) (e : Keep H H') : PAt K H' v p := let ⟨a, xs, h1, h2, h3⟩ := h; ⟨a, xs, h1, h2.keep e, Paired.mapP h3 fun _ _ z => z.keep e⟩
theorem dpQ {q : Str × Int} {x : V} (h : Dp K H x (encQ q) ∨ Dp K H x (encQL q)) : QAt K H q x := by
  rcases h with h | h
  · obtain ⟨a, xs, rfl, h1, h2⟩ := h.tupI
    obtain ⟨y, z, rfl, k1, k2⟩ := h2.two
    cases k1.strI
    cases k2.intI
    exact ⟨a, rfl, .inr h1⟩
  · obtain ⟨a, xs, rfl, h1, h2⟩ := h.lstI
    obtain ⟨y, z, rfl, k1, k2⟩ := h2.two
    cases k1.strI
    cases k2.intI
    exact ⟨a, rfl, .inl h1⟩
theorem dpAll_pair {α : Type} {f : α → PyData} {R : α → V → Prop} (hR : ∀ a x, Dp K H x (f a) → R a x) : ∀ {l : List α} {xs : List V}, DpAll K H xs (l.map f) → Paired R l xs
  | [], _, h => by cases h; exact .nil
  | a :: l, _, h => by
    rw [List.map_cons] at h
    cases h with
    | cons h1 h2 => exact .cons (hR _ _ h1) (dpAll_pair hR h2)
theorem pair_dpAll {α : Type} {f : α → PyData} {R : α → V → Prop} (hR : ∀ a x, R a x → Dp K H x (f a)) : ∀ {l : List α} {xs : List V}, Paired R l xs → DpAll K H xs (l.map f)
  | _, _, .nil => .nil
  | _, _, .cons h t => .cons (hR _ _ h) (pair_dpAll hR t)
theorem dpM {m : Mono} {x : V} (h : Dp K H x (encM m) ∨ Dp K H x (encML m)) : MAt K H m x := by
  rcases h with h | h
  · obtain ⟨a, xs, rfl, h1, h2⟩ := h.tupI
    exact ⟨a, xs, rfl, .inr h1, dpAll_pair (R := QAt K H) (fun _ _ z => dpQ (.inl z)) h2⟩
  · obtain ⟨a, xs, rfl, h1, h2⟩ := h.lstI
    exact ⟨a, xs, rfl, .inl h1, dpAll_pair (R := QAt K H) (fun _ _ z => dpQ (.inr z)) h2⟩
theorem dpT {t : Mono × Int} {x : V} (h : Dp K H x (encT t) ∨ Dp K H x (encTL t)) : TAt K H t x := by
  rcases h with h | h
  · obtain ⟨a, xs, rfl, h1, h2⟩ := h.tupI
    obtain ⟨y, z, rfl, k1, k2⟩ := h2.two
    cases k2.intI
    exact ⟨a, y, rfl, .inr h1, dpM (.inl k1)⟩
  · obtain ⟨a, xs, rfl, h1, h2⟩ := h.lstI
    obtain ⟨y, z, rfl, k1, k2⟩ := h2.two
    cases k2.intI
    exact ⟨a, y, rfl, .inl h1, dpM (.inr k1)⟩
theorem dpP {p : Poly} {x : V} (h : Dp K H x (encP p) ∨ Dp K H x (encPL p)) : PAt K H x p := by
  rcases h with h | h
  · obtain ⟨a, xs, rfl, h1, h2⟩ := h.tupI
    exact ⟨a, xs, rfl, .inr h1, dpAll_pair (R := TAt K H) (fun _ _ z => dpT (.inl z)) h2⟩
  · obtain ⟨a, xs, rfl, h1, h2⟩ := h.lstI
    exact ⟨a, xs, rfl, .inl h1, dpAll_pair (R := TAt K H) (fun _ _ z => dpT (.inr z)) h2⟩
end
theorem paired_at {α β : Type} {R : α → β → Prop} : ∀ {l : List α} {m : List β} {i : Nat} {y : β}, Paired R l m → m[i]? = some y → ∃ x, l[i]? = some x ∧ R x y
  | _, _, _, _, .nil, e => by simp at e
  | _, _, 0, _, .cons h _, e => by simp at e; subst e; exact ⟨_, rfl, h⟩
  | _, _, i + 1, _, .cons _ t, e => by
    obtain ⟨x, h1, h2⟩ := paired_at (i := i) t (by simpa using e)
    exact ⟨x, by simpa using h1, h2⟩
theorem take_at {α : Type} {l : List α} {i : Nat} {x : α} (h : l[i]? = some x) : l.take (i + 1) = l.take i ++ [x] := by
  rw [List.take_add_one, h]
  rfl
theorem pair_next {α β : Type} {R : α → β → Prop} {l : List α} {i : Nat} {x : α} {y : β} {m : List β} (h : Paired R (l.take i) m) (e : l[i]? = some x) (r : R x y) : Paired R (l.take (i + 1)) (m ++ [y]) := by
  rw [take_at e]
  exact Paired.snoc h r
theorem pair_all {α β : Type} {R : α → β → Prop} {l : List α} {n : Nat} {m : List β} (h : Paired R (l.take n) m) (e : n = l.length) : Paired R l m := by
  rw [e, List.take_length] at h
  exact h

/-! ### the heap but for one place -/
def Out (D : Addr) (H : Hp) : Hp := fun b => if b = D then none else H b
theorem out_upd {D : Addr} {H : Hp} {o : HO} : Out D (upd H D o) = Out D H := by
  funext b
  unfold Out
  by_cases h : b = D
  · rw [if_pos h, if_pos h]
  · rw [if_neg h, if_neg h, upd_ne h]
theorem out_ne {D b : Addr} {H : Hp} (h : b ≠ D) : Out D H b = H b := if_neg h
theorem out_le {D : Addr} {H : Hp} : Same (Out D H) H := fun b o e => by
  unfold Out at e
  by_cases h : b = D
  · rw [if_pos h] at e; cases e
  · rw [if_neg h] at e; exact e
theorem out_same {D : Addr} {H H' : Hp} (h : Same H H') : Same (Out D H) (Out D H') := fun b o e => by
  unfold Out at e ⊢
  by_cases z : b = D
  · rw [if_pos z] at e; cases e
  · rw [if_neg z] at e ⊢; exact h b o e
theorem out_of {D : Addr} {H H' : Hp} (h : Same H H') (hD : H D = none) : Same H (Out D H') := fun b o e => by
  rw [out_ne (ne_of_none e hD)]
  exact h b o e
theorem out_at {D : Addr} {H : Hp} : Out D H D = none := if_pos rfl
theorem filter_at {α : Type} {l : List α} {i : Nat} {x : α} {k : α → Bool} (h : l[i]? = some x) : (l.take (i + 1)).filter k = (l.take i).filter k ++ (if k x = true then [x] else []) := by
  rw [take_at h, List.filter_append]
  by_cases z : k x = true
  · simp [z]
  · simp [z]
abbrev LcInv {α : Type} (R : α → V → Hp → Prop) (k : α → Bool) (l : List α) (H : Hp) (D : Addr) (i : Nat) (H' : Hp) : Prop := ∃ acc, Same H H' ∧ H' D = some (.lst acc) ∧ Paired (fun t x => R t x (Out D H')) ((l.take i).filter k) acc
section
variable {α : Type} {R : α → V → Hp → Prop} {k : α → Bool} {l : List α} {H : Hp} {D : Addr} {i : Nat} {H' : Hp} {K : PySem.W.Frag}
theorem lcInv_zero (hD : H D = none) : LcInv R k l H D 0 (upd H D (.lst [])) := ⟨[], same_new hD, upd_same, .nil⟩
theorem lcInv_len (h : LcInv R k l H D i H') : ∀ acc, H' D = some (.lst acc) → acc.length ≤ i := fun acc e => by
  obtain ⟨acc', _, e', p⟩ := h
  rw [e] at e'
  cases e'
  rw [← p.length]
  exact Nat.le_trans (List.length_filter_le _ _) (List.length_take_le ..)
/-- one turn of a comprehension -/
theorem lc_turn {g : TG} {tt : TT} {te : TE} {vs : List Nat} {σ : L2.St} {x : V} {t : α} (mono : ∀ t x H H', R t x H → Same H H' → R t x H') (hD : H D = none) (hz : i < sizeLine) (p : LcInv R k l H D i H') (ht : l[i]? = some t)
    (hs : ∀ (Kt : VK) (Kf : Hp → Prop), (∀ y H4, k t = true → Same H' H4 → R t y (Out D H4) → Kt y H4) → (∀ H4, k t = false → Same H' H4 → Kf H4) → g x (wipe σ vs) H' fun σ2 H2 => wipe σ2 vs = wipe σ vs ∧ tt σ2 H2 fun b H3 => if b = true then te σ2 H3 Kt else Kf H3) :
    g x (wipe σ vs) H' fun σ2 H2 => wipe σ2 vs = wipe σ vs ∧ tt σ2 H2 fun b H3 =>
      if b = true then te σ2 H3 fun y H4 => ∃ acc, H4 D = some (.lst acc) ∧ acc.length < sizeLine ∧ LcInv R k l H D (i + 1) (upd H4 D (.lst (acc ++ [y]))) else LcInv R k l H D (i + 1) H3 := by
  have hlen := lcInv_len p
  obtain ⟨acc, e, ed, hp⟩ := p
  refine hs _ _ (fun y H4 kt e4 r => ⟨acc, e4 _ _ ed, Nat.lt_of_le_of_lt (hlen acc ed) hz, acc ++ [y], (e.trans e4).mut hD, upd_same, ?_⟩) fun H4 kf e4 => ⟨acc, e.trans e4, e4 _ _ ed, ?_⟩
  · rw [filter_at ht, if_pos kt, out_upd]
    exact Paired.snoc (Paired.mapP hp fun _ _ z => mono _ _ _ _ z (out_same e4)) r
  · rw [filter_at ht, if_neg (by simp [kf]), List.append_nil]
    exact Paired.mapP hp fun _ _ z => mono _ _ _ _ z (out_same e4)
/-- [e for x in xs if t], xs a list or a tuple -/
theorem lc_map {H0 : Hp} {a : Addr} {xs : List V} {g : TG} {tt : TT} {te : TE} {vs : List Nat} {σ : L2.St} {Qd : Addr → Hp → Prop} (R : α → V → Hp → Prop) (k : α → Bool) {l : List α} (mono : ∀ t x H H', R t x H → Same H H' → R t x H') (h : SqX K H0 a xs) (e0 : Keep H0 H) (hl : l.length = xs.length)
    (hs : ∀ (D : Addr) (i : Nat) x t H' (Kt : VK) (Kf : Hp → Prop), H D = none → xs[i]? = some x → l[i]? = some t → Same H H' → (∀ y H4, k t = true → Same H' H4 → R t y (Out D H4) → Kt y H4) → (∀ H4, k t = false → Same H' H4 → Kf H4) → (∃ acc, H' D = some (.lst acc)) →
      g x (wipe σ vs) H' fun σ2 H2 => wipe σ2 vs = wipe σ vs ∧ tt σ2 H2 fun b H3 => if b = true then te σ2 H3 Kt else Kf H3)
    (hd : ∀ D acc H', H D = none → Same H H' → H' D = some (.lst acc) → Paired (fun t x => R t x (Out D H')) (l.filter k) acc → Qd D H') :
    (∃ xs, SqL K H a xs ∧ (xs.length ≤ sizeLine → ∀ D, H D = none → LcB (Itl K a) g tt te vs σ D (Qd D) H)) ∨ (∃ xs, SqT K H a xs ∧ (xs.length ≤ sizeLine → ∀ D, H D = none → LcB (Itt K a) g tt te vs σ D (Qd D) H)) := by
  refine lc_seq h e0 (fun D i H' => LcInv R k l H D i H') (fun D hD => lcInv_zero hD) (fun D i H' _ ⟨_, e, _⟩ => e0.trans (.of e)) (fun D i x H' hD hz hi hx p => ?_) fun D H' hD p => ?_
  · obtain ⟨t, ht⟩ : ∃ t, l[i]? = some t := ⟨_, List.getElem?_eq_getElem (by omega)⟩
    refine lc_turn mono hD (by omega) p ht fun Kt Kf h1 h2 => ?_
    obtain ⟨acc, e, ed, _⟩ := p
    exact hs D i x t H' Kt Kf hD hx ht e h1 h2 ⟨acc, ed⟩
  · obtain ⟨acc, e, ed, hp⟩ := p
    rw [← hl, List.take_length] at hp
    exact hd D acc H' hD e ed hp
/-- the same over a dict keyed by monomials -/
theorem lc_mapN {a : Addr} {kvs : Poly} {R : (Mono × Int) → V → Hp → Prop} {k : (Mono × Int) → Bool} {es : Array DictEntry} {ep : Nat} {bs : List Addr} {g : TG} {tt : TT} {te : TE} {vs : List Nat} {σ : L2.St} {Qd : Hp → Prop} (mono : ∀ t x H H', R t x H → Same H H' → R t x H') (ha : H a = some (RawD a es ep)) (hk : KeysAt K H kvs bs) (hz : kvs.length ≤ sizeLine) (hD : H D = none)
    (hs : ∀ (i : Nat) b t H' (Kt : VK) (Kf : Hp → Prop), kvs[i]? = some t → MK K H b t.1 → Same H H' → (∀ y H4, k t = true → Same H' H4 → R t y (Out D H4) → Kt y H4) → (∀ H4, k t = false → Same H' H4 → Kf H4) → (∃ acc, H' D = some (.lst acc)) →
      g (.ref b) (wipe σ vs) H' fun σ2 H2 => wipe σ2 vs = wipe σ vs ∧ tt σ2 H2 fun b H3 => if b = true then te σ2 H3 Kt else Kf H3)
    (hd : ∀ acc H', Same H H' → H' D = some (.lst acc) → Paired (fun t x => R t x (Out D H')) (kvs.filter k) acc → Qd H') : LcB (Itn a es ep bs) g tt te vs σ D Qd H := by
  refine lc_nd hk (fun i H' => LcInv R k kvs H D i H') (lcInv_zero hD) (fun i H' ⟨_, e, _⟩ => ⟨e _ _ ha, .of e⟩) (fun i t b H' ht hb _ p => ?_) fun H' p => ?_
  · have hi := (List.getElem?_eq_some_iff.mp ht).1
    refine lc_turn mono hD (by omega) p ht fun Kt Kf h1 h2 => ?_
    obtain ⟨acc, e, ed, hp⟩ := p
    exact hs i b t H' Kt Kf ht (hk.2 i t b ht hb) e h1 h2 ⟨acc, ed⟩
  · obtain ⟨acc, e, ed, hp⟩ := p
    rw [List.take_length] at hp
    exact hd acc H' e ed hp
end
end K03
set_option Elab.async false
set_option linter.all false
set_option maxRecDepth 100000
set_option maxHeartbeats 4000000
namespace K03
open PySem PySem.Spec PyProof.Rows L2
section
variable {R : (Key × V) → V → Hp → Prop} {k : (Key × V) → Bool} {H : Hp} {D : Addr} {K : PySem.W.Frag}
/-- [e for x in d if t], d a locked dict with text keys -/
theorem lc_mapK {d : Addr} {o : Obj} {kvs : List (Key × V)} {g : TG} {tt : TT} {te : TE} {vs : List Nat} {σ : L2.St} {Qd : Hp → Prop} (mono : ∀ t x H H', R t x H → Same H H' → R t x H') (ha : H d = some (.frz o (.dK kvs))) (hz : kvs.length ≤ sizeLine) (hD : H D = none)
    (hs : ∀ (i : Nat) t H' (Kt : VK) (Kf : Hp → Prop), kvs[i]? = some t → Same H H' → (∀ y H4, k t = true → Same H' H4 → R t y (Out D H4) → Kt y H4) → (∀ H4, k t = false → Same H' H4 → Kf H4) → (∃ acc, H' D = some (.lst acc)) →
      g (kV t.1) (wipe σ vs) H' fun σ2 H2 => wipe σ2 vs = wipe σ vs ∧ tt σ2 H2 fun b H3 => if b = true then te σ2 H3 Kt else Kf H3)
    (hd : ∀ acc H', Same H H' → H' D = some (.lst acc) → Paired (fun t x => R t x (Out D H')) (kvs.filter k) acc → Qd H') : LcB (Itk d o kvs) g tt te vs σ D Qd H := by
  refine ⟨fun i m H' => m = kvs.length - i ∧ i ≤ kvs.length ∧ LcInv R k kvs H D i H', ⟨kvs.length, by simp, Nat.zero_le _, lcInv_zero hD⟩, ?_⟩
  rintro i m H' ⟨rfl, hi, p⟩
  have hda : H' d = some (.frz o (.dK kvs)) := p.elim fun _ q => q.1 _ _ ha
  by_cases hlt : i < kvs.length
  · refine .inr ⟨⟨hda, hlt⟩, LcInv R k kvs H D (i + 1), fun H' p' => ⟨kvs.length - (i + 1), by omega, rfl, hlt, p'⟩, ?_⟩
    rintro x H'' ⟨rfl, kk, v, hkv, rfl⟩
    refine lc_turn mono hD (by omega) p hkv fun Kt Kf h1 h2 => ?_
    obtain ⟨acc, e, ed, hp⟩ := p
    exact hs i (kk, v) _ Kt Kf hkv e h1 h2 ⟨acc, ed⟩
  · have e : i = kvs.length := by omega
    subst e
    refine .inl ⟨⟨hda, Nat.le_refl _⟩, ?_⟩
    obtain ⟨acc, e, ed, hp⟩ := p
    rw [List.take_length] at hp
    exact hd acc H' e ed hp
end

theorem depthQ (q : Str × Int) : (encQ q).depth ≤ 1 := by simp [encQ, PyData.depth, PyData.depthAll]
theorem depthM (m : Mono) : (encM m).depth ≤ 2 := by
  have h : ∀ m : Mono, PyData.depthAll (m.map encQ) ≤ 1 := by
    intro m
    induction m with
    | nil => simp [PyData.depthAll]
    | cons q r ih =>
      have := depthQ q
      simp only [List.map_cons, PyData.depthAll]
      omega
  have := h m
  simp only [encM, PyData.depth]
  omega
theorem depthT (t : Mono × Int) : (encT t).depth ≤ 3 := by
  have := depthM t.1
  simp only [encT, PyData.depth, PyData.depthAll]
  omega
theorem sortOkT (l : Poly) : SortOk encT l := by
  refine ⟨fun d hd d' hd' => ?_, .inl fun d hd => ?_, fun t _ => ?_⟩
  · obtain ⟨s, _, rfl⟩ := List.mem_map.mp hd
    obtain ⟨t, _, rfl⟩ := List.mem_map.mp hd'
    exact alikeT s t
  · obtain ⟨s, _, rfl⟩ := List.mem_map.mp hd
    exact ⟨_, rfl⟩
  · have := depthT t
    omega
theorem sortOkM (l : List Mono) : SortOk encM l := by
  refine ⟨fun d hd d' hd' => ?_, .inl fun d hd => ?_, fun t _ => ?_⟩
  · obtain ⟨s, _, rfl⟩ := List.mem_map.mp hd
    obtain ⟨t, _, rfl⟩ := List.mem_map.mp hd'
    exact alikeM s t
  · obtain ⟨s, _, rfl⟩ := List.mem_map.mp hd
    exact ⟨_, rfl⟩
  · have := depthM t
    omega
theorem sortOkQ (l : Mono) : SortOk encQ l := by
  refine ⟨fun d hd d' hd' => ?_, .inl fun d hd => ?_, fun t _ => ?_⟩
  · obtain ⟨s, _, rfl⟩ := List.mem_map.mp hd
    obtain ⟨t, _, rfl⟩ := List.mem_map.mp hd'
    exact alike_q s t
  · obtain ⟨s, _, rfl⟩ := List.mem_map.mp hd
    exact ⟨_, rfl⟩
  · have := depthQ t
    omega
theorem sortOkN (l : List Str) : SortOk PyData.str l := by
  refine ⟨fun d hd d' hd' => ?_, .inr (.inr fun d hd => ?_), fun t _ => ?_⟩
  · obtain ⟨s, _, rfl⟩ := List.mem_map.mp hd
    obtain ⟨t, _, rfl⟩ := List.mem_map.mp hd'
    rfl
  · obtain ⟨s, _, rfl⟩ := List.mem_map.mp hd
    exact ⟨by simp, by simp⟩
  · simp [PyData.depth]
theorem all_false {α : Type} {l : List α} {acc : List V} (h : Paired (fun _ y => y = V.bl false) l acc) : acc = (List.replicate l.length false).map V.bl := by
  induction h with
  | nil => rfl
  | cons h1 _ ih => rw [List.length_cons, List.replicate_succ, List.map_cons, ← ih, h1]
theorem any_false : ∀ n : Nat, (List.replicate n false).any id = false
  | 0 => rfl
  | n + 1 => by rw [List.replicate_succ, List.any_cons, any_false n]; rfl
end K03
set_option Elab.async false
set_option linter.all false
set_option maxRecDepth 100000
set_option maxHeartbeats 4000000
/-! frozen -/
namespace K03
open PySem PySem.Spec PyProof.Rows L2
section
variable {P : Program} {w : World} {K : PySem.W.Frag} {mg : Str → Option Value} {base : Heap} {f : Addr} {fd : FuncData}
def spFrozen (K : PySem.W.Frag) : Sp := fun vs H Q _ => ∃ v p, vs = [v] ∧ PAt K H v p ∧ ∀ v' H', Same H H' → FzAt K H' v' p → Q v' H'
abbrev nFrozen : List Str := ["p", "terms", "monomial", "coefficient", "name", "exponent"]
theorem scFrozen : FnScope nFrozen ["p"] (defScope (top 7)) := ⟨rfl, rfl, rfl, by decide +kernel, rfl, by decide +kernel, by decide +kernel⟩
theorem ok_frozen (F : FnP K "frozen" 7 f fd) (gT : mg "tuple" = none) : FnOk P w K mg base CX0 1 f fd ["p"] (spFrozen K) := by
  have nd := scFrozen.nd
  refine F.ok scFrozen (fun vs H Q E h => ?_) (fun cdv A outer s H vs Q E hr h => ⟨_, PSs.nox (pss_cons (ps_set (i := 1) nd rfl (.inl rfl) (pe_lst pa_nil))
    (pss_cons (ps_for PassesOwn.never rfl (pi_seq (pv 0)) (pg_seq rfl (pgs_cons (pg_name (i := 2) nd rfl (.inl rfl)) (pgs_cons (pg_name (i := 3) nd rfl (.inl rfl)) pgs_nil)))
      (pss_one (ps_expr (pe_bm PySem.F.plainAttrs_list PySem.F.slot_list_append PySem.F.type_list_append mt_append (pv 1) (pa_cons (pe_tup (pa_cons (pe_callTy call_tupleZ (by rfl) gT boot_tuple (pa_cons
        (pe_lc (own := [("name", 4), ("exponent", 5)]) (g := gSeq K 2 (gCons (gName 4) (gCons (gName 5) gNil))) (tt := tYes) rfl nd (pi_seq (pv 2)) (blkOk_by (own := [("name", 4), ("exponent", 5)]) (N := nFrozen) (sc := defScope (top 7)) (by decide +kernel))
          (fun _ _ _ _ _ => pg_seq rfl (pgs_cons (pg_name (i := 4) nd rfl (.inl rfl)) (pgs_cons (pg_name (i := 5) nd rfl (.inl rfl)) pgs_nil))) (fun _ _ _ _ _ => pts_nil) (fun _ _ _ _ _ => pe_tup (pa_cons (pv 4) (pa_cons (pv 5) pa_nil)))) pa_nil)) (pa_cons (pv 3) pa_nil))) pa_nil)))))
      (pss_one (ps_ret (pe_callTy call_tupleZ (by rfl) gT boot_tuple (pa_cons (pv 1) pa_nil)))))), ?_⟩)
  · obtain ⟨v, p, rfl, _⟩ := h
    rfl
  · obtain ⟨v, p, rfl, ⟨a, xs, rfl, hsq, hp⟩, hq⟩ := h
    refine ⟨Nat.zero_le _, fun l hl => ?_⟩
    refine ⟨_, rfl, a, rfl, for_seq hsq (keep_new hl) (fun i σ H' => ∃ x2 x3 done, σ = [some (.ref a), some (.ref l), x2, x3, none, none] ∧ Same H H' ∧ H' l = some (.lst done) ∧ TermsAt K (Out l H') (p.take i) done) ?_ ?_ ?_ ?_⟩
    · exact fun _ => ⟨none, none, [], rfl, same_new hl, upd_same, .nil⟩
    · rintro i σ H' ⟨x2, x3, done, rfl, e, _⟩
      exact .of e
    · rintro i x σ H1 hz hi hx ⟨x2, x3, done, rfl, e, el, ht⟩
      obtain ⟨t, ht0, a2, y, rfl, hs2, a3, ys, rfl, hs3, hm⟩ := paired_at hp hx
      refine ⟨a2, _, rfl, (hs2.keep (.of e)), rfl, _, _, rfl, _, _, rfl, rfl, ?_⟩
      refine ⟨_, rfl, .inl ⟨rfl, _, SqX.of_l el⟩, ?_⟩
      refine ⟨_, rfl, a3, rfl, lc_map (fun q y H => Dp K (Out l H) y (encQ q)) (fun _ => true) (l := t.1) (fun _ _ _ _ h e => h.same (out_same e)) hs3 (.of e) hm.length ?_ ?_⟩
      · rintro D j z q H2 Kt Kf hD hzj hq0 e2 k1 _ ⟨acc, ed⟩
        obtain ⟨q', hq0', a4, rfl, hs4⟩ := paired_at hm hzj
        rw [hq0] at hq0'
        cases hq0'
        refine ⟨a4, _, rfl, hs4.keep (.of (e.trans e2)), rfl, _, _, rfl, _, _, rfl, rfl, rfl, ?_⟩
        refine ⟨_, rfl, _, rfl, (by show 2 ≤ sizeLine; decide), fun t4 ht4 => k1 _ _ rfl (same_new ht4) ?_⟩
        have n4 : t4 ≠ D := fun z => by rw [← z, ht4] at ed; cases ed
        have n5 : t4 ≠ l := fun z => by rw [z, e2 _ _ el] at ht4; cases ht4
        exact Dp.newTup (xs := [.str q.1, .int q.2]) ((out_ne n5).trans ((out_ne n4).trans upd_same)) (.cons (.str _) (.cons (.int _) .nil))
      · rintro D acc H2 hD e2 ed hp2
        rw [List.filter_eq_self.mpr fun _ _ => rfl] at hp2
        refine ⟨D, acc, rfl, SqX.of_l ed, fun m o hm0 hpl so => ?_⟩
        refine ⟨_, rfl, (by show 2 ≤ sizeLine; decide), fun t5 ht5 => ?_⟩
        have nl : m ≠ l := fun z => by rw [z] at hm0; rw [e2 _ _ el] at hm0; cases hm0
        have nt : t5 ≠ l := fun z => by rw [z, upd_ne (Ne.symm nl)] at ht5; rw [e2 _ _ el] at ht5; cases ht5
        have e3 : Same H2 (upd (upd H2 m o) t5 (.tup [.ref m, .int t.2])) := (same_new hm0).trans (same_new ht5)
        refine ⟨l, done, _, rfl, rfl, e3 _ _ (e2 _ _ el), ?_, ?_⟩
        · have h1 := Paired.length ht
          rw [List.length_take] at h1
          have h2 := hp.length
          omega
        · refine ⟨_, _, done ++ [.ref t5], rfl, (e.trans (e2.trans e3)).mut hl, upd_same, ?_⟩
          rw [out_upd]
          refine pair_next (Paired.mapP ht fun s z ⟨c, b, e1, e4, e5⟩ => ?_) ht0 ⟨t5, m, rfl, SqX.of_t ((out_ne nt).trans upd_same), acc, ?_, ?_⟩
          · have kk : Keep (Out l H1) (Out l (upd (upd H2 m o) t5 (.tup [.ref m, .int t.2]))) := .of (out_same (e2.trans e3))
            exact ⟨c, b, e1, sqT_keep kk e4, e5.keep kk⟩
          · obtain ⟨o', h1, h2⟩ := hpl
            exact ⟨o', by rw [out_ne nl, same_new ht5 _ _ h1], h2⟩
          · exact (pair_dpAll (fun _ _ z => z) hp2).same (out_same (out_le.trans e3))
    · rintro σ H1 ⟨x2, x3, done, rfl, e, el, ht⟩
      rw [← hp.length, List.take_length] at ht
      refine ⟨_, rfl, l, done, rfl, SqX.of_l el, fun m o hm0 hpl so => hq _ _ (e.trans (same_new hm0)) ⟨m, done, rfl, hpl, Paired.mapP ht fun s z ⟨c, b, e1, e4, e5⟩ => ?_⟩⟩
      have kk : Keep (Out l H1) (upd H1 m o) := .of (out_le.trans (same_new hm0))
      exact ⟨c, b, e1, sqT_keep kk e4, e5.keep kk⟩
end
end K03
set_option Elab.async false
set_option linter.all false
set_option maxRecDepth 100000
set_option maxHeartbeats 4000000
/-! bodies as terms: tried -/
namespace K03
open PySem PySem.Spec PyProof.Rows L2
section
variable {P : Program} {w : World} {K : PySem.W.Frag} {mg : Str → Option Value} {base : Heap} {f f1 f2 : Addr} {fd fd1 fd2 : FuncData}
def spLeast : Sp := fun vs H Q _ => ∃ n : Nat, vs = [.int (n + 1)] ∧ n ≤ 300 ∧ Q (.int (10 ^ n)) H
def spGreat : Sp := fun vs H Q _ => ∃ n : Int, vs = [.int n] ∧ n < 10 ^ 200 ∧ Q (.bl false) H
abbrev nLeast : List Str := ["figures", "number", "_"]
theorem scLeast : FnScope nLeast ["figures"] (defScope (top 8)) := ⟨rfl, rfl, rfl, by decide +kernel, rfl, by decide +kernel, by decide +kernel⟩
theorem ok_least (F : FnP K "least_with" 8 f fd) (gR : mg "range" = none) : FnOk P w K mg base CX0 1 f fd ["figures"] spLeast := by
  have nd := scLeast.nd
  refine F.ok scLeast (fun vs H Q E h => ?_) (fun cdv A outer s H vs Q E hr h => ⟨_, PSs.nox (pss_cons (ps_set (i := 1) nd rfl (.inl rfl) pe_int)
    (pss_cons (ps_for PassesOwn.never rfl (pi_range1 (by rfl) gR (pa_cons (pe_op op_sub (pv 0) pe_int) pa_nil)) (pg_name (i := 2) nd rfl (.inl rfl))
      (pss_one (ps_set (i := 1) nd rfl (.inl rfl) (pe_op op_mulW (pv 1) pe_int))))
      (pss_one (ps_ret (pv 1))))), ?_⟩)
  · obtain ⟨n, rfl, _⟩ := h; rfl
  · obtain ⟨n, rfl, hn, q⟩ := h
    have en : ((n : Int) + 1 - 1).toNat = n := by omega
    refine ⟨_, rfl, _, _, rfl, rfl, _, rfl, (by omega), (by omega), for_range (lo := 0) (n := ((n : Int) + 1 - 1).toNat) (fun i σ H' => ∃ x, σ = [some (.int (n + 1)), some (.int (10 ^ i)), x] ∧ H' = H) ?_ ?_ ?_⟩
    · exact ⟨none, rfl, rfl⟩
    · rintro i σ H1 hi ⟨x, rfl, rfl⟩
      refine ⟨_, rfl, _, _, rfl, rfl, ?_, ?_⟩
      · refine wide_mul (a := 1200) (b := 4) ?_ (by decide) (by decide) (by decide) (by decide)
        rw [Int.natAbs_pow]
        exact Nat.lt_of_le_of_lt (Nat.pow_le_pow_right (by decide) (show i ≤ 300 by omega)) (by decide +kernel)
      · exact ⟨_, rfl, rfl⟩
    · rintro σ H1 ⟨x, rfl, rfl⟩
      rw [en]
      exact ⟨_, rfl, q⟩
abbrev nGreat : List Str := ["number"]
theorem scGreat : FnScope nGreat ["number"] (defScope (top 9)) := ⟨rfl, rfl, rfl, by decide +kernel, rfl, by decide +kernel, by decide +kernel⟩
theorem ok_great (F : FnP K "is_great" 9 f fd) (F1 : FnP K "least_with" 8 f1 fd1) (gR : mg "range" = none) (g1 : mg "least_with" = some (.ref f1)) {tp tf : Tok} (gP : mg "PLAIN" = some (.int 1000000000000 tp)) (gF : mg "MOST_FIGURES" = some (.int 200 tf)) : FnOk P w K mg base CX0 2 f fd ["number"] spGreat := by
  have nd := scGreat.nd
  have b1 : Binds K fd1 ["figures"] [] := F1.bindsN fun _ _ _ _ _ _ us hl => match us, hl with | [_], _ => rfl
  refine F.ok scGreat (fun vs H Q E h => ?_) (fun cdv A outer s H vs Q E hr h => ⟨_, PSs.nox (pss_one (ps_ret (pe_and (pe_cmpR op_ge (pv 0) (pe_glob (v := .int 1000000000000) rfl gP ⟨_, rfl⟩) (nomark _))
    (pe_one (pe_cmpR op_ge (pv 0) (pe_call (ok_least F1 gR) hr (by rfl) g1 F1.kp b1 .nil pass0 (pa_cons (pe_op op_add (pe_glob (v := .int 200) rfl gF ⟨_, rfl⟩) pe_int) pa_nil)) (nomark _)))))), ?_⟩)
  · obtain ⟨n, rfl, _⟩ := h; rfl
  · obtain ⟨n, rfl, hn, q⟩ := h
    refine ⟨_, rfl, _, _, rfl, rfl, _, rfl, ?_⟩
    by_cases h1 : (1000000000000 : Int) ≤ n
    · rw [decide_eq_true h1]
      refine ⟨_, rfl, _, _, rfl, rfl, 200, rfl, by decide, _, _, rfl, rfl, ?_⟩
      show Q (.bl (decide ((10 : Int) ^ 200 ≤ n))) H
      rw [decide_eq_false (by omega)]
      exact q
    · rw [decide_eq_false h1]
      exact q
def spChecked (K : PySem.W.Frag) (P : Program) (w : World) : Sp := fun vs H Q _ => ∃ a kvs, vs = [.ref a] ∧ NDAt K P w H a kvs ∧ MP kvs ∧ (kvs.filter fun t => decide (t.2 ≠ 0)).length ≤ 2000 ∧ (∀ t ∈ kvs, t.2.natAbs < 10 ^ 200) ∧
  ∀ v H', Same H H' → Dp K H' v (encP (sortT (kvs.filter fun t => decide (t.2 ≠ 0)))) → Q v H'
abbrev nChecked : List Str := ["counts", "terms", "monomial", "coefficient", "_"]
theorem scChecked : FnScope nChecked ["counts"] (defScope (top 10)) := ⟨rfl, rfl, rfl, by decide +kernel, rfl, by decide +kernel, by decide +kernel⟩
theorem ok_checked (F : FnP K "checked" 10 f fd) (G : FnOk P w K mg base CX0 2 f1 fd1 ["number"] spGreat) (b1 : Binds K fd1 ["number"] []) (k1 : PySem.W.keepIn K (.ref f1) = true) (g1 : mg "is_great" = some (.ref f1))
    (gT : mg "tuple" = none) (gS : mg "sorted" = none) (gL : mg "len" = none) (gA : mg "any" = none) (gB : mg "abs" = none) {tm : Tok} (gM : mg "MOST_TERMS" = some (.int 2000 tm)) : FnOk P w K mg base CX0 3 f fd ["counts"] (spChecked K P w) := by
  have nd := scChecked.nd
  refine F.ok scChecked (fun vs H Q E h => ?_) (fun cdv A outer s H vs Q E hr h => ⟨_, PSs.nox (pss_cons (ps_set (i := 1) nd rfl (.inl rfl)
      (pe_callB (call_sortedD (enc := encT) hr.units) (by rfl) gS boot_sorted (pa_cons (pe_lc (own := [("monomial", 2)]) (g := gName 2) (tt := tTest (tOp rNe (tNDGet K P w (tVar 0) (tVar 2)) (tC (.int 0)))) (te := tTup (tCons (tVar 2) (tCons (tNDGet K P w (tVar 0) (tVar 2)) tNil))) rfl nd (pi_nd (pv 0)) (blkOk_by (own := [("monomial", 2)]) (N := nChecked) (sc := defScope (top 10)) (by decide +kernel))
        (fun _ _ _ _ _ => pg_name (i := 2) nd rfl (.inl rfl)) (fun _ _ _ _ _ => pts_one (pt_cmpR op_ne (pe_ndget hr.units (pv 0) (pv 2) (fun _ _ => rfl)) pe_int (nomark _)))
        (fun _ _ _ _ _ => pe_tup (pa_cons (pv 2) (pa_cons (pe_ndget hr.units (pv 0) (pv 2) (fun _ _ => rfl)) pa_nil)))) pa_nil)))
    (pss_cons (ps_if (pt_cmpR op_gt (pe_callB call_len_seq (by rfl) gL boot_len (pa_cons (pv 1) pa_nil)) (pe_glob (v := .int 2000) rfl gM ⟨_, rfl⟩) (nomark _)) (pss_one ps_never) pss_nil)
    (pss_cons (ps_if (pt_val (pe_callB (cr_any rfl) (by rfl) gA boot_any (pa_cons (pe_lc (own := [("_", 4), ("coefficient", 3)]) (g := gTup K 2 (gCons (gName 4) (gCons (gName 3) gNil))) (tt := tYes) rfl nd (pi_seq (pv 1)) (blkOk_by (own := [("_", 4), ("coefficient", 3)]) (N := nChecked) (sc := defScope (top 10)) (by decide +kernel))
        (fun _ _ _ _ _ => pg_tup rfl (pgs_cons (pg_name (i := 4) nd rfl (.inl rfl)) (pgs_cons (pg_name (i := 3) nd rfl (.inl rfl)) pgs_nil))) (fun _ _ _ _ _ => pts_nil)
        (fun _ _ _ _ _ => pe_call G hr (by rfl) g1 k1 b1 .nil pass0 (pa_cons (pe_callB call_abs (by rfl) gB boot_abs (pa_cons (pv 3) pa_nil)) pa_nil))) pa_nil))) (pss_one ps_never) pss_nil)
    (pss_one (ps_ret (pe_callTy call_tuple_of (by rfl) gT boot_tuple (pa_cons (pv 1) pa_nil))))))), ?_⟩)
  · obtain ⟨a, kvs, rfl, _⟩ := h; rfl
  · obtain ⟨a, kvs, rfl, hd, hm, hlen, hsm, hq⟩ := h
    refine ⟨_, rfl, a, kvs, rfl, hd, fun es ep bs he hk D hD => lc_mapN (R := fun t y H => Dp K H y (encT t)) (k := fun t => decide (t.2 ≠ 0)) (fun _ _ _ _ h e => h.same e) he hk hd.size hD ?_ ?_⟩
    · rintro i b t H' Kt Kf ht hb e k1 k2 ⟨acc, ed⟩
      have hg : getP kvs t.1 = some t.2 := getP_mem hd.nodup (List.mem_of_getElem? ht)
      refine ⟨rfl, _, rfl, _, rfl, a, b, kvs, t.1, t.2, rfl, rfl, hd.same e, hb.keep (.of e), hg, rfl, _, rfl, ?_⟩
      by_cases hz : t.2 = 0
      · rw [hz]
        exact k2 _ (by simp [hz]) fun _ _ z => z
      · have e1 : (!decide (V.int t.2 = V.int 0)) = true := by simp [hz]
        rw [e1]
        refine ⟨_, rfl, _, rfl, _, rfl, a, b, kvs, t.1, t.2, rfl, rfl, hd.same e, hb.keep (.of e), hg, (by show 2 ≤ sizeLine; decide), fun q hq0 => k1 _ _ (by simp [hz]) (same_new hq0) ?_⟩
        have nq : q ≠ D := fun z => by rw [z, ed] at hq0; cases hq0
        exact Dp.newTup (xs := [.ref b, .int t.2]) ((out_ne nq).trans upd_same) (.cons ((hb.keep (.of ((out_of (e.trans (same_new hq0)) hD)))).dp) (.cons (.int _) .nil))
    · intro acc H1 e ed hp
      refine ⟨fun t x => Dp K H1 x (encT t), D, acc, _, rfl, SqX.of_l ed, Paired.mapP hp fun _ _ z => z.same out_le, fun _ _ z => z, sortOkT _, fun ys p hys hp0 => ?_⟩
      have hyl : ys.length ≤ 2000 := by
        rw [← hys.length, (List.mergeSort_perm ..).length_eq]
        exact hlen
      refine ⟨_, rfl, p, ys, rfl, .inl (SqX.of_l upd_same), _, _, rfl, rfl, _, rfl, ?_⟩
      rw [decide_eq_false (by omega)]
      have e2 : Same H1 (upd H1 p (.lst ys)) := same_new hp0
      refine ⟨_, rfl, p, rfl, lc_map (fun t y H => y = .bl false) (fun _ => true) (l := sortT (kvs.filter fun t => decide (t.2 ≠ 0))) (fun _ _ _ _ h _ => h) (.inl (SqX.of_l upd_same)) (Keep.refl _) hys.length ?_ ?_⟩
      · rintro D2 i x t H2 Kt Kf hD2 hx ht e3 k1 _ _
        obtain ⟨t', ht', hdp⟩ := paired_at hys hx
        rw [ht] at ht'
        cases ht'
        obtain ⟨a2, xs2, rfl, hs2, ha2⟩ := hdp.tupI
        obtain ⟨y1, y2, rfl, _, k2⟩ := ha2.two
        cases k2.intI
        have hin : t ∈ kvs := (List.mem_filter.mp ((List.mergeSort_perm ..).mem_iff.mp (List.mem_of_getElem? ht))).1
        refine ⟨a2, _, rfl, sqT_keep (.of (e2.trans e3)) hs2, rfl, _, _, rfl, _, _, rfl, rfl, rfl, ?_⟩
        refine ⟨_, rfl, _, rfl, _, rfl, ?_, k1 _ _ rfl (fun _ _ z => z) rfl⟩
        have := hsm t hin
        split <;> omega
      · rintro D2 acc2 H2 hD2 e3 ed2 hp2
        rw [all_false hp2] at ed2
        refine ⟨D2, _, rfl, SqX.of_l ed2, _, rfl, ?_⟩
        rw [any_false]
        refine ⟨_, rfl, p, ys, rfl, .inl ⟨SqX.of_l (e3 _ _ upd_same), fun l hl => hq _ _ (e.trans (e2.trans (e3.trans (same_new hl)))) (Dp.newTup upd_same ((pair_dpAll (fun _ _ z => z) hys).same (e2.trans (e3.trans (same_new hl)))))⟩⟩
end
end K03
set_option Elab.async false
set_option linter.all false
set_option maxRecDepth 100000
set_option maxHeartbeats 4000000
/-! counts_of, monomial_product, add_times -/
namespace K03
open PySem PySem.Spec PyProof.Rows L2
theorem none_of {H H' : Hp} {a : Addr} (e : Same H H') (h : H' a = none) : H a = none := by
  cases z : H a with
  | none => rfl
  | some o => rw [e _ _ z] at h; cases h
theorem merge_kvQ : ∀ (m acc : Mono), (nms (acc ++ m)).Nodup → mergeK (acc.map kvQ) (m.map kvQ) = (acc ++ m).map kvQ
  | [], acc, _ => by simp [mergeK]
  | q :: m, acc, h => by
    have hk : q.1 ∉ nms acc := fun z => by
      unfold nms at h z
      rw [List.map_append, List.map_cons, List.nodup_append] at h
      exact h.2.2 _ z _ (List.mem_cons_self ..) rfl
    have e : putK (acc.map kvQ) (kvQ q).1 (kvQ q).2 = (acc ++ [q]).map kvQ := by
      unfold putK
      rw [if_neg, List.map_append]
      · rfl
      · intro z
        obtain ⟨x, h1, h2⟩ := List.any_eq_true.mp z
        obtain ⟨r, h3, rfl⟩ := List.mem_map.mp h1
        have h4 : (Sum.inr r.1 : Key) = Sum.inr q.1 := of_decide_eq_true h2
        injection h4 with h4
        exact hk (List.mem_map.mpr ⟨r, h3, h4⟩)
    show mergeK (putK (acc.map kvQ) (kvQ q).1 (kvQ q).2) (m.map kvQ) = _
    rw [e, merge_kvQ m (acc ++ [q]) (by rw [List.append_assoc]; exact h), List.append_assoc]
    rfl
theorem val_kvQ (n : Str) : ∀ m : Mono, valV (m.map kvQ) (.inr n) = (getQ m n).map V.int
  | [] => rfl
  | q :: m => by
    have ih := val_kvQ n m
    unfold valV getQ at ih ⊢
    rw [List.map_cons, List.find?_cons, List.find?_cons]
    by_cases h : q.1 = n
    · have h' : decide ((kvQ q).1 = (Sum.inr n : Key)) = true := decide_eq_true (by rw [← h]; rfl)
      rw [h', decide_eq_true h]
      rfl
    · have h' : decide ((kvQ q).1 = (Sum.inr n : Key)) = false := decide_eq_false fun z => by
        have z' : (Sum.inr q.1 : Key) = Sum.inr n := z
        injection z' with z'
        exact h z'
      rw [h', decide_eq_false h]
      exact ih
theorem put_kvQ (m : Mono) (n : Str) (v : Int) : putK (m.map kvQ) (.inr n) (.int v) = (putQ m n v).map kvQ := by
  have dec : ∀ q : Str × Int, decide ((kvQ q).1 = (Sum.inr n : Key)) = decide (q.1 = n) := fun q => by
    by_cases h : q.1 = n
    · rw [decide_eq_true h]; exact decide_eq_true (by rw [← h]; rfl)
    · rw [decide_eq_false h]; exact decide_eq_false fun z => by
        have z' : (Sum.inr q.1 : Key) = Sum.inr n := z
        injection z' with z'
        exact h z'
  have ea : ((m.map kvQ).any fun kv => decide (kv.1 = (Sum.inr n : Key))) = m.any fun q => decide (q.1 = n) := by
    rw [List.any_map]
    exact congrArg (m.any ·) (funext dec)
  unfold putK putQ
  rw [ea]
  by_cases h : (m.any fun q => decide (q.1 = n)) = true
  · rw [if_pos h, if_pos h, List.map_map, List.map_map]
    refine List.map_congr_left fun q _ => ?_
    show (if (kvQ q).1 = (Sum.inr n : Key) then ((kvQ q).1, V.int v) else kvQ q) = kvQ (if q.1 = n then (q.1, v) else q)
    by_cases z : q.1 = n
    · rw [if_pos z, if_pos (by rw [← z]; rfl)]; rfl
    · rw [if_neg z, if_neg fun y => by
        have z' : (Sum.inr q.1 : Key) = Sum.inr n := y
        injection z' with z'
        exact z z']
  · rw [if_neg h, if_neg h, List.map_append]
    rfl
theorem getQ_mem : ∀ {m : Mono} {q : Str × Int}, (nms m).Nodup → q ∈ m → getQ m q.1 = some q.2
  | [], _, _, h => by cases h
  | r :: m, q, hn, h => by
    obtain ⟨h1, h2⟩ := List.nodup_cons.mp hn
    unfold getQ
    rw [List.find?_cons]
    rcases List.mem_cons.mp h with e | e
    · subst e
      rw [decide_eq_true rfl]
      rfl
    · have ne : r.1 ≠ q.1 := fun z => h1 (List.mem_map.mpr ⟨q, e, z.symm⟩)
      rw [decide_eq_false ne]
      exact getQ_mem h2 e
theorem paired_kvQ {K : PySem.W.Frag} {H : Hp} : ∀ {m : Mono} {acc : List V}, Paired (fun kv y => ∃ q, kv = kvQ q ∧ Dp K H y (encQ q)) (m.map kvQ) acc → Paired (fun q y => Dp K H y (encQ q)) m acc
  | [], _, .nil => .nil
  | q :: m, _, .cons ⟨q', e, h⟩ t => by
    have : q = q' := by
      unfold kvQ at e
      injection e with e1 e2
      injection e1 with e1
      injection e2 with e2
      exact Prod.ext e1 e2
    subst this
    exact .cons h (paired_kvQ t)
section
variable {P : Program} {w : World} {K : PySem.W.Frag} {mg : Str → Option Value} {base : Heap} {f f1 f2 : Addr} {fd fd1 fd2 : FuncData}
def spCountsOf (K : PySem.W.Frag) (P : Program) (w : World) : Sp := fun vs H Q _ => ∃ v p, vs = [v] ∧ PAt K H v p ∧ (keys p).Nodup ∧ ∀ a H', Same H H' → H a = none → NDAt K P w H' a p → Q (.ref a) H'
abbrev nCountsOf : List Str := ["p"]
theorem scCountsOf : FnScope nCountsOf ["p"] (defScope (top 11)) := ⟨rfl, rfl, rfl, by decide +kernel, rfl, by decide +kernel, by decide +kernel⟩
theorem ok_countsOf (F : FnP K "counts_of" 11 f fd) (G : FnOk P w K mg base CX0 1 f1 fd1 ["p"] (spFrozen K)) (b1 : Binds K fd1 ["p"] []) (k1 : PySem.W.keepIn K (.ref f1) = true) (g1 : mg "frozen" = some (.ref f1)) (gD : mg "dict" = none) :
    FnOk P w K mg base CX0 2 f fd ["p"] (spCountsOf K P w) := by
  refine F.ok scCountsOf (fun vs H Q E h => ?_) (fun cdv A outer s H vs Q E hr h => ⟨_, PSs.nox (pss_one (ps_ret (pe_callTy (call_dict_nd rfl hr.units) (by rfl) gD PyProof.Rows.boot_dict (pa_cons (pe_call G hr (by rfl) g1 k1 b1 .nil pass0 (pa_cons (pv 0) pa_nil)) pa_nil)))), ?_⟩)
  · obtain ⟨v, p, rfl, _⟩ := h; rfl
  · obtain ⟨v, p, rfl, hp, hn, hq⟩ := h
    refine ⟨_, rfl, v, p, rfl, hp, fun v' H' e fz => ⟨v', p, rfl, fz, fun a o ha so hnd => hq a _ (e.trans (same_new ha)) (none_of e ha) ?_⟩⟩
    have := ofTerms_nodup hn
    unfold ofTerms at hnd
    rwa [this] at hnd
def spMono (K : PySem.W.Frag) : Sp := fun vs H Q _ => ∃ b c m m', vs = [.ref b, .ref c] ∧ MK K H b m ∧ MK K H c m' ∧ CanonM m ∧ CanonM m' ∧ m.length + m'.length < sizeLine ∧ ∀ d H', Same H H' → MK K H' d (mmul m m') → Q (.ref d) H'
abbrev nMono : List Str := ["one", "other", "exponents", "name", "exponent"]
theorem scMono : FnScope nMono ["one", "other"] (defScope (top 12)) := ⟨rfl, rfl, rfl, by decide +kernel, rfl, by decide +kernel, by decide +kernel⟩
theorem canon_nodup {m : Mono} (h : CanonM m) : (nms m).Nodup := rising_nodup nlt_irr (List.pairwise_map.mpr h.rise)
theorem ok_mono (F : FnP K "monomial_product" 12 f fd) (gT : mg "tuple" = none) (gS : mg "sorted" = none) (gD : mg "dict" = none) : FnOk P w K mg base CX0 1 f fd ["one", "other"] (spMono K) := by
  have nd := scMono.nd
  refine F.ok scMono (fun vs H Q E h => ?_) (fun cdv A outer s H vs Q E hr h => ⟨_, PSs.nox (pss_cons (ps_set (i := 2) nd rfl (.inr rfl) (pe_callTy (call_dict_mk rfl) (by rfl) gD PyProof.Rows.boot_dict (pa_cons (pv 0) pa_nil)))
    (pss_cons (ps_for PassesOwn.never rfl (pi_seq (pv 1)) (pg_seq rfl (pgs_cons (pg_name (i := 3) nd rfl (.inl rfl)) (pgs_cons (pg_name (i := 4) nd rfl (.inl rfl)) pgs_nil)))
      (pss_one (ps_dput (hu_of hr) (pv 2) (pv 3) (pe_op op_add (pe_dget2 (hu_of hr) (pv 2) (pv 3) pe_int ⟨rfl, rfl, rfl, rfl⟩) (pv 4)) rfl)))
    (pss_one (ps_ret (pe_callTy call_tupleZ (by rfl) gT PyProof.Rows.boot_tuple (pa_cons (pe_callB (call_sortedD (enc := encQ) hr.units) (by rfl) gS boot_sorted (pa_cons (pe_lock (pe_lc (own := [("name", 3)]) (g := gName 3) (tt := tYes) (te := tTup (tCons (tVar 3) (tCons (tDGet (tVar 2) (tVar 3)) tNil))) rfl nd (pi_keys (pv 2)) (blkOk_by (own := [("name", 3)]) (N := nMono) (sc := defScope (top 12)) (by decide +kernel))
        (fun _ _ _ _ _ => pg_name (i := 3) nd rfl (.inl rfl)) (fun _ _ _ _ _ => pts_nil)
        (fun _ _ _ _ _ => pe_tup (pa_cons (pv 3) (pa_cons (pe_dget (hu_of hr) (pv 2) (pv 3) (fun _ _ => rfl)) pa_nil))))) pa_nil)) pa_nil)))))), ?_⟩)
  · obtain ⟨b, c, m, m', rfl, _⟩ := h; rfl
  · obtain ⟨b, c, m, m', rfl, hb, hc, cm, cm', hl, hq⟩ := h
    refine ⟨_, rfl, b, m, rfl, hb, fun d hd => ?_⟩
    have em : mergeK [] (m.map kvQ) = m.map kvQ := merge_kvQ m [] (by simpa using canon_nodup cm)
    rw [em]
    obtain ⟨xs, hpl, hdp⟩ := hc
    have hps : Paired (QAt K H) m' xs := dpAll_pair (R := QAt K H) (fun _ _ z => dpQ (.inl z)) hdp
    refine ⟨_, rfl, c, rfl, for_seq (.inr hpl.sq) (keep_new hd) (fun i σ H' => ∃ x3 x4 mm, σ = [some (.ref b), some (.ref c), some (.ref d), x3, x4] ∧ Same H H' ∧ H' d = some (.dK (mm.map kvQ)) ∧ (nms mm).Nodup ∧ (∀ q ∈ mm, 1 ≤ q.2) ∧ (∀ x, ex mm x = ex (mmul m (m'.take i)) x) ∧ mm.length ≤ m.length + i) ?_ ?_ ?_ ?_⟩
    · exact fun _ => ⟨none, none, m, rfl, same_new hd, upd_same, canon_nodup cm, cm.pos, fun _ => rfl, by omega⟩
    · rintro i σ H' ⟨_, _, _, _, e, _⟩
      exact .of e
    · rintro i x σ H1 hz hi hx ⟨x3, x4, mm, rfl, e, ed, hn, hp, he, hml⟩
      obtain ⟨q, hq0, a2, rfl, hs2⟩ := paired_at hps hx
      have hqp : 1 ≤ q.2 := cm'.pos q (List.mem_of_getElem? hq0)
      have hil : i < m'.length := (List.getElem?_eq_some_iff.mp hq0).1
      refine ⟨a2, _, rfl, hs2.keep (.of e), rfl, _, _, rfl, _, _, rfl, rfl, ?_⟩
      refine ⟨_, rfl, d, rfl, .inl ⟨_, .inl ed⟩, _, rfl, (getQ mm q.1).map V.int, .inl ⟨_, .inr q.1, .inl ed, rfl, (val_kvQ q.1 mm).symm⟩, _, rfl, ?_⟩
      have eo : ((getQ mm q.1).map V.int).getD (.int 0) = .int (ex mm q.1) := by
        rw [← getQ_ex]
        cases getQ mm q.1 <;> rfl
      rw [eo]
      have h0 : 0 ≤ ex mm q.1 := ex_nonneg q.1 hp
      refine ⟨_, _, rfl, rfl, ?_⟩
      refine ⟨_, rfl, _, rfl, d, _, rfl, .inl ⟨_, .inr q.1, ed, rfl, (by rw [List.length_map]; omega), rfl⟩, ?_⟩
      rw [put_kvQ]
      refine ⟨_, _, putQ mm q.1 (ex mm q.1 + q.2), rfl, e.mut hd, upd_same, nodup_putQ hn, pos_putQ hp (by omega), fun x => ?_, by have := len_putQ mm q.1 (ex mm q.1 + q.2); omega⟩
      have ct : CanonM (mmul m (m'.take i)) := canon_mmul cm fun p hp => cm'.pos p (List.mem_of_mem_take hp)
      rw [ex_putQ, take_at hq0]
      have e3 : mmul m (m'.take i ++ [q]) = ins q.1 q.2 (mmul m (m'.take i)) := by
        unfold mmul
        rw [List.foldl_append]
        rfl
      rw [e3, ex_ins x ct, he x, he q.1]
      by_cases z : q.1 = x
      · rw [if_pos z, if_pos z, z]
      · rw [if_neg z, if_neg z]; omega
    · rintro σ H1 ⟨x3, x4, mm, rfl, e, ed, hn, hp, he, hml⟩
      rw [← hps.length, List.take_length] at he
      have es : sortQ mm = mmul m m' := sortQ_mmul cm cm' hn hp he
      refine ⟨d, _, ed, True.intro, fun od => ?_⟩
      refine ⟨_, rfl, d, od, rfl, .inl ⟨_, upd_same, fun D hD => lc_mapK (R := fun kv y H => ∃ q, kv = kvQ q ∧ Dp K (Out d H) y (encQ q)) (k := fun _ => true) (fun _ _ _ _ ⟨q, h1, h2⟩ e => ⟨q, h1, h2.same (out_same e)⟩) upd_same ?_ hD ?_ ?_⟩⟩
      · rw [List.length_map, ← (List.mergeSort_perm mm (PySem.W.dataLe false encQ)).length_eq]
        rw [← hps.length] at hml
        rw [(List.mergeSort_perm mm (PySem.W.dataLe false encQ)).length_eq]
        omega
      · rintro i t H2 Kt Kf ht e2 k1 _ ⟨acc, eD⟩
        rw [List.getElem?_map] at ht
        obtain ⟨q, hq1, rfl⟩ := Option.map_eq_some_iff.mp ht
        have hqm : q ∈ mm := List.mem_of_getElem? hq1
        have hg : valV (mm.map kvQ) (.inr q.1) = some (.int q.2) := by
          rw [val_kvQ]
          have : getQ mm q.1 = some q.2 := getQ_mem hn hqm
          rw [this]; rfl
        have ed2 := e2 _ _ (upd_same (H := H1) (a := d))
        refine ⟨rfl, _, rfl, _, rfl, _, rfl, d, _, rfl, .inl ⟨_, .inr q.1, .inr ⟨_, ed2⟩, rfl, hg.symm⟩, (by show 2 ≤ sizeLine; decide), fun p hp0 => k1 _ _ rfl (same_new hp0) ⟨q, rfl, ?_⟩⟩
        have n1 : p ≠ d := fun z => by rw [z, ed2] at hp0; cases hp0
        have n2 : p ≠ D := fun z => by rw [z, eD] at hp0; cases hp0
        exact Dp.newTup (xs := [.str q.1, .int q.2]) ((out_ne n1).trans ((out_ne n2).trans upd_same)) (.cons (.str _) (.cons (.int _) .nil))
      · intro acc H2 e2 eD hacc
        rw [List.filter_eq_self.mpr fun _ _ => rfl] at hacc
        have hacc' := paired_kvQ hacc
        have ed2 := e2 _ _ (upd_same (H := H1) (a := d))
        have nD : D ≠ d := fun z => by rw [z, upd_same] at hD; cases hD
        have s1 : Same (Out d (Out D H2)) (upd H2 d (.dK (mm.map kvQ))) := fun b o z => by
          have hb : b ≠ d := fun y => by rw [y, out_at] at z; cases z
          rw [out_ne hb] at z
          rw [upd_ne hb]
          exact out_le b o z
        have s2 : Same H (upd H2 d (.dK (mm.map kvQ))) := ((e.mut hd).trans e2).mut hd
        refine ⟨ed2, fun q y => Dp K (upd H2 d (.dK (mm.map kvQ))) y (encQ q), D, acc, mm, rfl, SqX.of_l ((upd_ne nD).trans eD), Paired.mapP hacc' fun _ _ z => z.same s1, fun _ _ z => z, sortOkQ mm, fun ys p hys hp0 => ?_⟩
        refine ⟨p, ys, rfl, SqX.of_l upd_same, fun l o hl0 hpl0 so => hq l _ (s2.trans ((same_new hp0).trans (same_new hl0))) ⟨ys, hpl0, ?_⟩⟩
        rw [← es]
        exact (pair_dpAll (fun _ _ z => z) hys).same ((same_new hp0).trans (same_new hl0))
end
end K03
set_option Elab.async false
set_option linter.all false
set_option maxRecDepth 100000
set_option maxHeartbeats 4000000
/-! add_times, counts_product, counts_power -/
namespace K03
open PySem PySem.Spec PyProof.Rows L2
/-- all stays but what stands at a -/
def Only (a : Addr) (H H' : Hp) : Prop := ∀ b o, H b = some o → b ≠ a → H' b = some o
theorem Only.refl (a : Addr) (H : Hp) : Only a H H := fun _ _ h _ => h
theorem Only.trans {a : Addr} {H H1 H2 : Hp} (x : Only a H H1) (y : Only a H1 H2) : Only a H H2 := fun b o h n => y b o (x b o h n) n
theorem Only.put {a : Addr} {H H1 : Hp} {o : HO} (x : Only a H H1) : Only a H (upd H1 a o) := fun b u h n => by
  rw [upd_ne n]
  exact x b u h n
theorem Only.of {a : Addr} {H H1 : Hp} (e : Same H H1) : Only a H H1 := fun b o h _ => e b o h
theorem Only.keep {a : Addr} {H H1 : Hp} {o : HO} (x : Only a H H1) (h : H a = some o) (s : Soft o) : Keep H H1 := fun b u hb n => x b u hb fun z => by
  rw [z, h] at hb
  cases hb
  exact n s
theorem NDAt.only {K : PySem.W.Frag} {P : Program} {w : World} {a b : Addr} {kvs : Poly} {H H' : Hp} {o : HO} (h : NDAt K P w H b kvs) (x : Only a H H') (n : b ≠ a) (ha : H a = some o) (s : Soft o) : NDAt K P w H' b kvs := by
  obtain ⟨u, hu, _⟩ := h.there
  exact h.keep (x.keep ha s) (by rw [hu]; exact x _ _ hu n)
theorem ev_single (m : Mono) (c : Int) (φ : Mono → Int) : ev [(m, c)] φ = c * φ m := by
  show c * φ m + 0 = _
  omega
section
variable {P : Program} {w : World} {K : PySem.W.Frag} {mg : Str → Option Value} {base : Heap} {f f1 f2 : Addr} {fd fd1 fd2 : FuncData}
def spAddTimes (K : PySem.W.Frag) (P : Program) (w : World) : Sp := fun vs H Q _ => ∃ a b c k1 k2, vs = [.ref a, .ref b, .int c] ∧ NDAt K P w H a k1 ∧ NDAt K P w H b k2 ∧ a ≠ b ∧ MP k1 ∧ MP k2 ∧ -(2 ^ 64) < c ∧ c < 2 ^ 64 ∧ k1.length + k2.length < sizeLine ∧
  ∀ H' k', Only a H H' → NDAt K P w H' a k' → MP k' → (∀ φ, ev k' φ = ev k1 φ + c * ev k2 φ) → Q .non H'
abbrev nAddTimes : List Str := ["counts", "other", "factor", "monomial"]
theorem scAddTimes : FnScope nAddTimes ["counts", "other", "factor"] (defScope (top 13)) := ⟨rfl, rfl, rfl, by decide +kernel, rfl, by decide +kernel, by decide +kernel⟩
theorem ok_addTimes (F : FnP K "add_times" 13 f fd) : FnOk P w K mg base CX0 1 f fd ["counts", "other", "factor"] (spAddTimes K P w) := by
  have nd := scAddTimes.nd
  refine F.ok scAddTimes (fun vs H Q E h => ?_) (fun cdv A outer s H vs Q E hr h => ⟨_, PSs.nox (pss_one (ps_for PassesOwn.never rfl (pi_nd (pv 1)) (pg_name (i := 3) nd rfl (.inl rfl))
    (pss_one (ps_ndput hr.units (pv 0) (pv 3) (pe_op op_add (pe_ndgetOr hr.units (pv 0) (pv 3) pe_int ⟨rfl, rfl, rfl, rfl⟩) (pe_op op_mul (pv 2) (pe_ndget hr.units (pv 1) (pv 3) (fun _ _ => rfl)))) rfl)))), ?_⟩)
  · obtain ⟨a, b, c, k1, k2, rfl, _⟩ := h; rfl
  · obtain ⟨a, b, c, k1, k2, rfl, h1, h2, ne, m1, m2, c1, c2, hl, hq⟩ := h
    obtain ⟨oa, ha, sa⟩ := h1.there
    refine ⟨_, rfl, b, k2, rfl, h2, fun es ep bs he hk => for_nd hk (fun i σ H' => ∃ x k', σ = [some (.ref a), some (.ref b), some (.int c), x] ∧ Only a H H' ∧ NDAt K P w H' a k' ∧ MP k' ∧ k'.length ≤ k1.length + i ∧ ∀ φ, ev k' φ = ev k1 φ + c * ev (k2.take i) φ) ?_ ?_ ?_ ?_⟩
    · exact ⟨none, k1, rfl, Only.refl _ _, h1, m1, by omega, fun φ => by show _ = _ + c * 0; omega⟩
    · rintro i σ H' ⟨x, k', rfl, e, _⟩
      exact ⟨e _ _ he (Ne.symm ne), e.keep ha sa⟩
    · rintro i t bt σ H' ht _ hb ⟨x, k', rfl, e, hn, hm, hlen, hev⟩
      have hg : getP k2 t.1 = some t.2 := getP_mem h2.nodup (List.mem_of_getElem? ht)
      have hi := (List.getElem?_eq_some_iff.mp ht).1
      have hb2 : NDAt K P w H' b k2 := h2.only e (Ne.symm ne) ha sa
      refine ⟨_, rfl, ⟨a, k', rfl, hn⟩, _, rfl, a, bt, k', t.1, 0, rfl, rfl, rfl, hn, hb, ?_⟩
      refine ⟨_, rfl, _, rfl, _, rfl, b, bt, k2, t.1, t.2, rfl, rfl, hb2, hb, hg, ?_⟩
      refine ⟨_, _, rfl, rfl, .inl ⟨c1, c2⟩, _, _, rfl, rfl, ?_⟩
      refine ⟨_, rfl, _, rfl, a, bt, k', t.1, _, rfl, rfl, rfl, hn, (by omega), hb, fun o so hn' => ⟨_, _, rfl, e.put, hn', mp_put hm (m2 t (List.mem_of_getElem? ht)), ?_, fun φ => ?_⟩⟩
      · have := len_put k' t.1 ((getP k' t.1).getD 0 + c * t.2)
        omega
      · rw [ev_put_more hn.nodup, hev φ, take_at ht, ev_snoc]
        rw [Int.mul_add, Int.mul_assoc]
        omega
    · rintro σ H' ⟨x, k', rfl, e, hn, hm, hlen, hev⟩
      rw [List.take_length] at hev
      exact hq H' k' e hn hm hev
def Fit (p : Poly) : Prop := ∀ t ∈ p, t.2.natAbs < 2 ^ 3000
def spProd (K : PySem.W.Frag) (P : Program) (w : World) : Sp := fun vs H Q _ => ∃ a b p q, vs = [.ref a, .ref b] ∧ NDAt K P w H a p ∧ NDAt K P w H b q ∧ MP p ∧ MP q ∧ Fit p ∧ Fit q ∧ p.length * q.length < sizeLine ∧ (∀ s ∈ p, ∀ t ∈ q, s.1.length + t.1.length < sizeLine) ∧
  ∀ d H' r, Same H H' → H d = none → NDAt K P w H' d r → MP r → (∀ t ∈ r, t.2 ≠ 0) → Eqv r (rmul p q) → Q (.ref d) H'
abbrev nProd : List Str := ["one", "other", "counts", "monomial", "second", "made"]
theorem scProd : FnScope nProd ["one", "other"] (defScope (top 14)) := ⟨rfl, rfl, rfl, by decide +kernel, rfl, by decide +kernel, by decide +kernel⟩
theorem ok_prod (F : FnP K "counts_product" 14 f fd) (G : FnOk P w K mg base CX0 1 f1 fd1 ["one", "other"] (spMono K)) (b1 : Binds K fd1 ["one", "other"] []) (k1 : PySem.W.keepIn K (.ref f1) = true) (g1 : mg "monomial_product" = some (.ref f1)) :
    FnOk P w K mg base CX0 2 f fd ["one", "other"] (spProd K P w) := by
  have nd := scProd.nd
  refine F.ok scProd (fun vs H Q E h => ?_) (fun cdv A outer s H vs Q E hr h => ⟨_, PSs.nox (pss_cons (ps_set (i := 2) nd rfl (.inr rfl) pe_ndnew)
    (pss_cons (ps_for PassesOwn.never rfl (pi_nd (pv 0)) (pg_name (i := 3) nd rfl (.inl rfl)) (pss_one (ps_for PassesOwn.never rfl (pi_nd (pv 1)) (pg_name (i := 4) nd rfl (.inl rfl))
      (pss_cons (ps_set (i := 5) nd rfl (.inl rfl) (pe_call G hr (by rfl) g1 k1 b1 .nil pass0 (pa_cons (pv 3) (pa_cons (pv 4) pa_nil))))
      (pss_one (ps_ndput hr.units (pv 2) (pv 5) (pe_op op_add (pe_ndgetOr hr.units (pv 2) (pv 5) pe_int ⟨rfl, rfl, rfl, rfl⟩) (pe_op op_mulW (pe_ndget hr.units (pv 0) (pv 3) (fun _ _ => rfl)) (pe_ndget hr.units (pv 1) (pv 4) (fun _ _ => rfl)))) rfl))))))
    (pss_one (ps_ret (pe_dcF (own := [("monomial", 3)]) (g := gName 3) (tt := tTest (tOp rNe (tNDGet K P w (tVar 2) (tVar 3)) (tC (.int 0)))) (tk := tVar 3) (tv := tNDGet K P w (tVar 2) (tVar 3)) (fillND _ hr.units) rfl nd (pi_nd (pv 2)) (blkOk_by (own := [("monomial", 3)]) (N := nProd) (sc := defScope (top 14)) (by decide +kernel))
      (fun _ _ _ _ _ => pg_name (i := 3) nd rfl (.inl rfl)) (fun _ _ _ _ _ => pts_one (pt_cmpR op_ne (pe_ndget hr.units (pv 2) (pv 3) (fun _ _ => rfl)) pe_int (nomark _))) (fun _ _ _ _ _ => pv 3) (fun _ _ _ _ _ => pe_ndget hr.units (pv 2) (pv 3) (fun _ _ => rfl))))))), ?_⟩)
  · obtain ⟨a, b, p, q, rfl, _⟩ := h; rfl
  · obtain ⟨a, b, p, q, rfl, h1, h2, m1, m2, ft1, ft2, hl, hml, hq⟩ := h
    intro d od hd sd hnd
    have e0 : Same H (upd H d od) := same_new hd
    refine ⟨_, rfl, a, p, rfl, h1.same e0, fun es ep bs he hk => for_nd hk (fun i σ H' => ∃ x3 x4 x5 k, σ = [some (.ref a), some (.ref b), some (.ref d), x3, x4, x5] ∧ Same H H' ∧ NDAt K P w H' d k ∧ MP k ∧ k.length ≤ i * q.length ∧ ∀ φ, ev k φ = ev (p.take i) fun m => ev q fun n => φ (mmul m n)) ?_ ?_ ?_ ?_⟩
    · exact ⟨none, none, none, [], rfl, e0, hnd, (fun _ h => by cases h), by simp, fun φ => rfl⟩
    · rintro i σ H' ⟨x3, x4, x5, k, rfl, e, _⟩
      obtain ⟨oa, ha, sa⟩ := h1.there
      rw [upd_ne (ne_of_none ha hd)] at he
      refine ⟨e _ _ he, fun b o hb n => ?_⟩
      by_cases z : b = d
      · rw [z, upd_same] at hb
        cases hb
        exact absurd sd n
      · rw [upd_ne z] at hb
        exact e b o hb
    · rintro i t bt σ Hi ht _ hb ⟨x3, x4, x5, k, rfl, e, hn, hm, hlen, hev⟩
      have hg : getP p t.1 = some t.2 := getP_mem h1.nodup (List.mem_of_getElem? ht)
      have htm := List.mem_of_getElem? ht
      have hi := (List.getElem?_eq_some_iff.mp ht).1
      obtain ⟨od1, hd1, sd1⟩ := hn.there
      refine ⟨_, rfl, b, q, rfl, h2.same e, fun es2 ep2 bs2 he2 hk2 => for_nd hk2 (fun j σ H' => ∃ x4 x5 k, σ = [some (.ref a), some (.ref b), some (.ref d), some (.ref bt), x4, x5] ∧ Same H H' ∧ Keep Hi H' ∧ NDAt K P w H' d k ∧ MP k ∧ k.length ≤ i * q.length + j ∧ ∀ φ, ev k φ = ev (p.take i) (fun m => ev q fun n => φ (mmul m n)) + t.2 * ev (q.take j) fun n => φ (mmul t.1 n)) ?_ ?_ ?_ ?_⟩
      · exact ⟨x4, x5, k, rfl, e, Keep.refl _, hn, hm, hlen, fun φ => by rw [hev φ]; show _ = _ + t.2 * 0; omega⟩
      · rintro j σ H' ⟨x4, x5, k, rfl, e', ke, _⟩
        obtain ⟨ob, hb2, sb⟩ := h2.there
        have : Hi b = H b := by rw [hb2]; exact e _ _ hb2
        rw [this] at he2
        exact ⟨e' _ _ he2, ke⟩
      · rintro j t2 bt2 σ H2 ht2 _ hb2 ⟨x4, x5, k, rfl, e2, ke, hn2, hm2, hlen2, hev2⟩
        have hg2 : getP q t2.1 = some t2.2 := getP_mem h2.nodup (List.mem_of_getElem? ht2)
        have htm2 := List.mem_of_getElem? ht2
        have hj := (List.getElem?_eq_some_iff.mp ht2).1
        refine ⟨_, rfl, _, rfl, bt, bt2, t.1, t2.1, rfl, hb.keep ke, hb2, m1 t htm, m2 t2 htm2, hml t htm t2 htm2, fun c H3 e3 mk => ?_⟩
        have hn3 := hn2.same e3
        have hlt : k.length < sizeLine := by
          have : i * q.length + q.length ≤ p.length * q.length := by
            rw [← Nat.succ_mul]
            exact Nat.mul_le_mul_right _ hi
          omega
        refine ⟨_, rfl, ⟨d, k, rfl, hn3⟩, _, rfl, d, c, k, _, 0, rfl, rfl, rfl, hn3, mk, ?_⟩
        refine ⟨_, rfl, _, rfl, a, bt, p, t.1, t.2, rfl, rfl, h1.same (e2.trans e3), hb.keep (ke.trans (.of e3)), hg, ?_⟩
        refine ⟨_, rfl, _, rfl, b, bt2, q, t2.1, t2.2, rfl, rfl, h2.same (e2.trans e3), hb2.keep (.of e3), hg2, ?_⟩
        refine ⟨_, _, rfl, rfl, wide_mul (ft1 t htm) (ft2 t2 htm2) (by decide) (by decide) (by decide), _, _, rfl, rfl, ?_⟩
        refine ⟨_, rfl, _, rfl, d, c, k, _, _, rfl, rfl, rfl, hn3, hlt, mk, fun o so hn' => ⟨_, _, _, rfl, (e2.trans e3).mut hd, ?_, hn', mp_put hm2 ((m1 t htm).mul (m2 t2 htm2)), ?_, fun φ => ?_⟩⟩
        · obtain ⟨o3, ho3, so3⟩ := hn3.there
          exact (ke.trans (.of e3)).trans (keep_soft ho3 so3)
        · have := len_put k (mmul t.1 t2.1) ((getP k (mmul t.1 t2.1)).getD 0 + t.2 * t2.2)
          omega
        · rw [ev_put_more hn3.nodup, hev2 φ, take_at ht2, ev_snoc, Int.mul_add, Int.mul_assoc]
          omega
      · rintro σ H2 ⟨x4, x5, k, rfl, e2, ke, hn2, hm2, hlen2, hev2⟩
        refine ⟨_, _, _, k, rfl, e2, hn2, hm2, by rw [Nat.succ_mul]; exact hlen2, fun φ => ?_⟩
        rw [hev2 φ, List.take_length, take_at ht, ev_snoc]
    · rintro σ H1 ⟨x3, x4, x5, k, rfl, e, hn, hm, hlen, hev⟩
      rw [List.take_length] at hev
      refine ⟨_, rfl, d, k, rfl, hn, fun es2 ep2 bs2 he2 hk2 D hD hS => ?_⟩
      refine ⟨fun i m H' => m = k.length - i ∧ i ≤ k.length ∧ Same H1 H' ∧ ∃ k', NDAt K P w H' D k' ∧ k' = nzf (k.take i), ⟨k.length, by simp, Nat.zero_le _, same_new hD, [], ⟨#[], 0, [], upd_same, rfl, .nil, .nil, Nat.zero_le _, hS⟩, by simp⟩, ?_⟩
      rintro i m H' ⟨rfl, hi, e', k', hk', ek⟩
      have hlk := hk2.1
      by_cases hlt : i < k.length
      · refine .inr ⟨⟨by rw [hlk]; exact hlt, e' _ _ he2⟩, fun H'' => Same H1 H'' ∧ ∃ k', NDAt K P w H'' D k' ∧ k' = nzf (k.take (i + 1)), fun H'' q => ⟨k.length - (i + 1), by omega, rfl, hlt, q⟩, ?_⟩
        rintro x H'' ⟨rfl, bt, hbt, rfl⟩
        obtain ⟨t, ht⟩ : ∃ t, k[i]? = some t := ⟨_, List.getElem?_eq_getElem hlt⟩
        have hb : MK K H'' bt t.1 := (hk2.2 i t bt ht hbt).keep (.of e')
        have hg : getP k t.1 = some t.2 := getP_mem hn.nodup (List.mem_of_getElem? ht)
        refine ⟨rfl, _, rfl, _, rfl, d, bt, k, t.1, t.2, rfl, rfl, hn.same e', hb, hg, rfl, _, rfl, ?_⟩
        have ef := filter_at (k := fun t : Mono × Int => decide (t.2 ≠ 0)) ht
        by_cases hz : t.2 = 0
        · have e1 : (!decide (V.int t.2 = V.int 0)) = false := by simp [hz]
          rw [e1]
          refine ⟨e', k', hk', ?_⟩
          show k' = (k.take (i + 1)).filter _
          rw [ef, if_neg (by simp [hz]), List.append_nil, ek]
        · have e1 : (!decide (V.int t.2 = V.int 0)) = true := by simp [hz]
          rw [e1]
          have hkl : k'.length ≤ i := by rw [ek]; exact Nat.le_trans (List.length_filter_le _ _) (List.length_take_le ..)
          refine ⟨_, rfl, _, rfl, _, rfl, d, bt, k, t.1, t.2, rfl, rfl, hn.same e', hb, hg, bt, k', t.1, t.2, rfl, rfl, hk', ?_, hb, fun o so hn' => ⟨e'.mut hD, _, hn', ?_⟩⟩
          · have := hn.size
            omega
          · have hnk : t.1 ∉ keys k' := fun z => by
              have nk := hn.nodup
              have h3 : (keys (k.take (i + 1))).Nodup := nk.sublist (List.Sublist.map _ (List.take_sublist ..))
              rw [take_at ht] at h3
              unfold keys at h3 z
              rw [List.map_append, List.nodup_append] at h3
              rw [ek] at z
              obtain ⟨r, hr, er⟩ := List.mem_map.mp z
              exact h3.2.2 _ (List.mem_map.mpr ⟨r, (List.mem_filter.mp hr).1, rfl⟩) t.1 (by simp) er
            rw [put_new hnk, ek]
            show _ = (k.take (i + 1)).filter _
            rw [ef, if_pos (by simp [hz])]
      · have ei : i = k.length := by omega
        subst ei
        rw [List.take_length] at ek
        refine .inl ⟨⟨by rw [hlk]; exact Nat.le_refl _, e' _ _ he2⟩, hq D H' k' (e.trans e') (none_of e hD) hk' ?_ ?_ fun φ => ?_⟩
        · rw [ek]; exact mp_filter hm
        · rw [ek]; exact fun t ht => of_decide_eq_true (List.mem_filter.mp ht).2
        · rw [ek, ev_nonzero, hev φ, ev_rmul]
end
end K03
set_option Elab.async false
set_option linter.all false
set_option maxRecDepth 100000
set_option maxHeartbeats 4000000
/-! counts_power, and the ring's functions -/
namespace K03
open PySem PySem.Spec PyProof.Rows L2
/-- what is known of a written polynomial: its names, terms, size -/
structure Gd (S : List Str) (E : Poly) (l n : Nat) : Prop where
  mp : MP E
  ov : Over (· ∈ S) E
  len : E.length ≤ l
  nr : nrm E ≤ n
theorem Gd.app {S : List Str} {E F : Poly} {l n l' n' : Nat} (h : Gd S E l n) (h' : Gd S F l' n') : Gd S (E ++ F) (l + l') (n + n') :=
  ⟨h.mp.app h'.mp, h.ov.app h'.ov, by rw [List.length_append]; exact Nat.add_le_add h.len h'.len, by rw [nrm_app]; exact Nat.add_le_add h.nr h'.nr⟩
theorem Gd.mul {S : List Str} {E F : Poly} {l n l' n' : Nat} (h : Gd S E l n) (h' : Gd S F l' n') : Gd S (rmul E F) (l * l') (n * n') :=
  ⟨h.mp.mul h'.mp, h.ov.mul h'.ov, by rw [len_mul]; exact Nat.mul_le_mul h.len h'.len, by rw [nrm_mul]; exact Nat.mul_le_mul h.nr h'.nr⟩
theorem Gd.neg {S : List Str} {E : Poly} {l n : Nat} (h : Gd S E l n) : Gd S (rneg E) l n :=
  ⟨h.mp.neg, h.ov.neg, by rw [len_neg]; exact h.len, by rw [nrm_neg]; exact h.nr⟩
theorem Gd.pow {S : List Str} {E : Poly} {l n : Nat} (h : Gd S E l n) (k : Nat) : Gd S (rpow E k) (l ^ k) (n ^ k) :=
  ⟨h.mp.pow k, h.ov.pow k, by rw [len_pow]; exact Nat.pow_le_pow_left h.len k, by rw [nrm_pow]; exact Nat.pow_le_pow_left h.nr k⟩
theorem Gd.num {S : List Str} (c : Int) {n : Nat} (h : c.natAbs ≤ n) : Gd S [([], c)] 1 n :=
  ⟨fun t ht => by simp at ht; subst ht; exact CanonM.nil, Over.one, Nat.le_refl _, by show c.natAbs + 0 ≤ n; omega⟩
theorem Gd.nil {S : List Str} : Gd S [] 0 0 := ⟨(fun _ h => by cases h), (fun _ h => by cases h), Nat.le_refl _, Nat.le_refl _⟩
theorem Gd.mono {S : List Str} {E : Poly} {l n l' n' : Nat} (h : Gd S E l n) (hl : l ≤ l') (hn : n ≤ n') : Gd S E l' n' := ⟨h.mp, h.ov, Nat.le_trans h.len hl, Nat.le_trans h.nr hn⟩
/-- the result: the told form of E -/
def Res (K : PySem.W.Frag) (E : Poly) (v : V) (H : Hp) : Prop := ∃ R, Dp K H v (encP R) ∧ CanonP mlt R ∧ Eqv R E
/-- .. or handed as lists -/
def ResH (K : PySem.W.Frag) (E : Poly) (v : V) (H : Hp) : Prop := ∃ R, PAt K H v R ∧ CanonP mlt R ∧ Eqv R E
theorem Res.keep {K : PySem.W.Frag} {E : Poly} {v : V} {H H' : Hp} (h : Res K E v H) (e : Keep H H') : Res K E v H' := let ⟨R, h1, h2⟩ := h; ⟨R, h1.keep e, h2⟩
theorem ResH.keep {K : PySem.W.Frag} {E : Poly} {v : V} {H H' : Hp} (h : ResH K E v H) (e : Keep H H') : ResH K E v H' := let ⟨R, h1, h2⟩ := h; ⟨R, h1.keep e, h2⟩
theorem Res.h {K : PySem.W.Frag} {E : Poly} {v : V} {H : Hp} (h : Res K E v H) : ResH K E v H := let ⟨R, h1, h2⟩ := h; ⟨R, dpP (.inl h1), h2⟩
theorem Res.eqv {K : PySem.W.Frag} {E F : Poly} {v : V} {H : Hp} (h : Res K E v H) (e : Eqv E F) : Res K F v H := let ⟨R, h1, h2, h3⟩ := h; ⟨R, h1, h2, h3.trans e⟩
theorem mono_len {S : List Str} {m : Mono} (h : CanonM m) (ho : ∀ q ∈ m, q.1 ∈ S) : m.length ≤ S.length := by
  have h1 := nodup_len (canon_nodup h) (m := S) fun x hx => by
    obtain ⟨q, hq, rfl⟩ := List.mem_map.mp hx
    exact ho q hq
  rwa [List.length_map] at h1
/-- what a dict of the terms of E is -/
structure DOk (S : List Str) (k E : Poly) (l n : Nat) : Prop where
  mp : MP k
  nz : ∀ t ∈ k, t.2 ≠ 0
  eq : Eqv k E
  len : k.length ≤ l
  co : ∀ t ∈ k, t.2.natAbs ≤ n
  ml : ∀ t ∈ k, t.1.length ≤ S.length
theorem dOk {S : List Str} {k E : Poly} {l n : Nat} (hn : (keys k).Nodup) (hm : MP k) (nz : ∀ t ∈ k, t.2 ≠ 0) (e : Eqv k E) (g : Gd S E l n) : DOk S k E l n := by
  have ek : nzf k = k := List.filter_eq_self.mpr fun t ht => decide_eq_true (nz t ht)
  obtain ⟨c, ev⟩ := checked_canon hn hm
  refine ⟨hm, nz, e, ?_, fun t ht => Nat.le_trans (coef_small hn hm e t ht) g.nr, fun t ht => mono_len (hm t ht) fun q hq => ?_⟩
  · have := nzf_len hn hm e
    rw [ek] at this
    exact Nat.le_trans this g.len
  · refine Over.of mlt_irr c (ev.trans e) g.ov t ((List.mergeSort_perm ..).mem_iff.mpr ?_) q hq
    rw [ek]
    exact ht
theorem DOk.fit {S : List Str} {k E : Poly} {l n : Nat} (h : DOk S k E l n) (hn : n < 2 ^ 3000) : Fit k := fun t ht => Nat.lt_of_le_of_lt (h.co t ht) hn
def mu2 (σ : L2.St) : Nat := match σ with | [_, some (.int i), _, _] => i.toNat | _ => 0
section
variable {P : Program} {w : World} {K : PySem.W.Frag} {mg : Str → Option Value} {base : Heap} {f f1 f2 f3 : Addr} {fd fd1 fd2 fd3 : FuncData}
def spPow (K : PySem.W.Frag) (P : Program) (w : World) : Sp := fun vs H Q _ => ∃ a k p S E l n, vs = [.ref a, .int (k : Nat)] ∧ NDAt K P w H a p ∧ DOk S p E l n ∧ Gd S E l n ∧ 1 ≤ l ∧ 1 ≤ n ∧ k ≤ 100 ∧ l ^ k ≤ 2000 ∧ n ^ k < 2 ^ 3000 ∧ S.length ≤ 1000 ∧
  ∀ d H' r, Same H H' → NDAt K P w H' d r → DOk S r (rpow E k) (l ^ k) (n ^ k) → Q (.ref d) H'
abbrev nPow : List Str := ["one", "k", "made", "square"]
theorem scPow : FnScope nPow ["one", "k"] (defScope (top 15)) := ⟨rfl, rfl, rfl, by decide +kernel, rfl, by decide +kernel, by decide +kernel⟩
theorem ok_pow (F : FnP K "counts_power" 15 f fd) (G : FnOk P w K mg base CX0 2 f1 fd1 ["one", "other"] (spProd K P w)) (b1 : Binds K fd1 ["one", "other"] []) (k1 : PySem.W.keepIn K (.ref f1) = true) (g1 : mg "counts_product" = some (.ref f1)) :
    FnOk P w K mg base CX0 3 f fd ["one", "k"] (spPow K P w) := by
  have nd := scPow.nd
  refine F.ok scPow (fun vs H Q E h => ?_) (fun cdv A outer s H vs Q E hr h => ⟨_, PSs.nox (pss_cons (ps_set (i := 2) nd rfl (.inl rfl) (pe_ndone hr.units pe_tup0 pe_int))
    (pss_cons (ps_set (i := 3) nd rfl (.inl rfl) (pv 0))
    (pss_cons (ps_while PassesOwn.never (pt_cmpR op_gt (pv 1) pe_int (nomark _))
      (pss_cons (ps_if (pt_cmpR op_eq (pe_op op_and (pv 1) pe_int) pe_int (nomark _)) (pss_one (ps_set (i := 2) nd rfl (.inl rfl) (pe_call G hr (by rfl) g1 k1 b1 .nil pass0 (pa_cons (pv 2) (pa_cons (pv 3) pa_nil))))) pss_nil)
      (pss_cons (ps_set (i := 1) nd rfl (.inl rfl) (pe_op op_fdiv (pv 1) pe_int))
      (pss_one (ps_if (pt_cmpR op_gt (pv 1) pe_int (nomark _)) (pss_one (ps_set (i := 3) nd rfl (.inl rfl) (pe_call G hr (by rfl) g1 k1 b1 .nil pass0 (pa_cons (pv 3) (pa_cons (pv 3) pa_nil))))) pss_nil)))))
    (pss_one (ps_ret (pv 2)))))), ?_⟩)
  · obtain ⟨a, k, p, S, E', l, n, rfl, _⟩ := h; rfl
  · obtain ⟨a, k, p, S, E', l, n, rfl, hp, dp, g, hl1, hn1, hk, hl, hn, hS, hq⟩ := h
    have lk : ∀ j, j ≤ k → l ^ j ≤ 2000 := fun j hj => Nat.le_trans (Nat.pow_le_pow_right hl1 hj) hl
    have nk : ∀ j, j ≤ k → n ^ j < 2 ^ 3000 := fun j hj => Nat.lt_of_le_of_lt (Nat.pow_le_pow_right hn1 hj) hn
    have mulOk : ∀ {i j : Nat} {r s : Poly}, i + j ≤ k → DOk S r (rpow E' i) (l ^ i) (n ^ i) → DOk S s (rpow E' j) (l ^ j) (n ^ j) → r.length * s.length < sizeLine ∧ ∀ x ∈ r, ∀ y ∈ s, x.1.length + y.1.length < sizeLine := fun {i j r s} hij h1 h2 => by
      refine ⟨?_, fun x hx y hy => ?_⟩
      · have h3 := Nat.mul_le_mul h1.len h2.len
        rw [← Nat.pow_add] at h3
        have h4 := lk _ hij
        exact Nat.lt_of_le_of_lt (Nat.le_trans h3 h4) (by decide)
      · have h3 := h1.ml x hx
        have h4 := h2.ml y hy
        have h5 : 2000 < sizeLine := by decide
        omega
    have mulD : ∀ {i j : Nat} {r s t : Poly}, (keys t).Nodup → MP t → (∀ x ∈ t, x.2 ≠ 0) → Eqv t (rmul r s) → DOk S r (rpow E' i) (l ^ i) (n ^ i) → DOk S s (rpow E' j) (l ^ j) (n ^ j) → DOk S t (rpow E' (i + j)) (l ^ (i + j)) (n ^ (i + j)) := fun {i j r s t} ht hm nz e h1 h2 =>
      dOk ht hm nz ((e.trans (eqv_mul h1.eq h2.eq)).trans (pow_add' g.mp j i).symm) (g.pow _)
    intro d od hd sd hnd
    intro l0 o0 hl0 hpl hso
    have hnd1 : NDAt K P w (upd (upd H d od) l0 o0) d [] := hnd.same (same_new hl0)
    refine ⟨l0, [], 1, rfl, rfl, hnd1, ⟨[], hpl, .nil⟩, fun o1 so1 hn1' => ?_⟩
    have e0 : Same H (upd (upd (upd H d od) l0 o0) d o1) := ((same_new hd).trans (same_new hl0)).mut hd
    refine ⟨_, rfl, ?_⟩
    refine while_by (fun σ H' => ∃ (dm ds : Addr) (j s k' : Nat) (rm rs : Poly), σ = [some (.ref a), some (.int k'), some (.ref dm), some (.ref ds)] ∧ Same H H' ∧ j + s * k' = k ∧ NDAt K P w H' dm rm ∧ NDAt K P w H' ds rs ∧ DOk S rm (rpow E' j) (l ^ j) (n ^ j) ∧ DOk S rs (rpow E' s) (l ^ s) (n ^ s))
      (fun σ _ => mu2 σ) ?_ ?_ ?_
    · refine ⟨d, a, 0, 1, k, [([], 1)], p, rfl, e0, by omega, hn1', hp.same e0, dOk hn1'.nodup MP.one (fun t ht => by simp at ht; subst ht; decide) (Eqv.refl _) (by rw [Nat.pow_zero, Nat.pow_zero]; exact Gd.num 1 (by decide)), ?_⟩
      rw [Nat.pow_one, Nat.pow_one]
      exact ⟨dp.mp, dp.nz, dp.eq.trans (pow_one' E').symm, dp.len, dp.co, dp.ml⟩
    · rintro σ H1 ⟨dm, ds, j, s, k', rm, rs, rfl, e, ejk, hm, hs, dm', ds'⟩
      refine ⟨_, rfl, _, _, rfl, rfl, _, rfl, ?_⟩
      by_cases hk0 : k' = 0
      · subst hk0
        rw [decide_eq_false (by decide)]
        have ej : j = k := by simpa using ejk
        subst ej
        exact ⟨_, rfl, hq dm H1 rm e hm dm'⟩
      · rw [decide_eq_true (by omega)]
        have tail : ∀ (dm2 : Addr) (H2 : Hp) (j2 : Nat) (rm2 : Poly) (D : Ends), (∀ σ' H', (∃ (dm ds : Addr) (j s k' : Nat) (rm rs : Poly), σ' = [some (.ref a), some (.int k'), some (.ref dm), some (.ref ds)] ∧ Same H H' ∧ j + s * k' = k ∧ NDAt K P w H' dm rm ∧ NDAt K P w H' ds rs ∧ DOk S rm (rpow E' j) (l ^ j) (n ^ j) ∧ DOk S rs (rpow E' s) (l ^ s) (n ^ s)) ∧ mu2 σ' < k' → D.nx σ' H') →
            Same H H2 → j2 + s * 2 * (k' / 2) = k → NDAt K P w H2 dm2 rm2 → DOk S rm2 (rpow E' j2) (l ^ j2) (n ^ j2) → NDAt K P w H2 ds rs →
            tSeq (tAsg (tOp (rI CDiv fun i j => .int (i / j)) (tVar 1) (tC (.int 2))) (gName 1)) (tIfS (tTest (tOp (rI0 fun i j => .bl (decide (j < i))) (tVar 1) (tC (.int 0)))) (tAsg (tCall (spProd K P w) [] E0 (tCons (tVar 3) (tCons (tVar 3) tNil))) (gName 3)) tNext) D [some (.ref a), some (.int k'), some (.ref dm2), some (.ref ds)] H2 := by
          intro dm2 H2 j2 rm2 D hD e2 ej2 hm2 dm2' hs2
          refine ⟨_, rfl, _, _, rfl, rfl, ⟨by decide, by decide⟩, ?_⟩
          have ek : (k' : Int) / 2 = ((k' / 2 : Nat) : Int) := by omega
          refine ⟨_, rfl, _, _, rfl, rfl, _, rfl, ?_⟩
          have lt2 : k' / 2 < k' := by omega
          by_cases hk2 : k' / 2 = 0
          · rw [decide_eq_false (by omega)]
            refine hD _ _ ⟨⟨dm2, ds, j2, s, k' / 2, rm2, rs, by rw [← ek]; rfl, e2, ?_, hm2, hs2, dm2', ds'⟩, ?_⟩
            · rw [hk2] at ej2 ⊢; simpa using ej2
            · show ((k' : Int) / 2).toNat < k'
              rw [ek]; omega
          · rw [decide_eq_true (by omega)]
            have hs2k : s + s ≤ k := by
              have : s * 2 * 1 ≤ s * 2 * (k' / 2) := Nat.mul_le_mul_left _ (by omega)
              omega
            obtain ⟨p1, p2⟩ := mulOk hs2k ds' ds'
            refine ⟨_, rfl, _, rfl, ds, ds, rs, rs, rfl, hs2, hs2, ds'.mp, ds'.mp, ds'.fit (nk s (by omega)), ds'.fit (nk s (by omega)), p1, p2, fun d3 H3 r3 e3 _ h3 m3 z3 q3 => ?_⟩
            refine hD _ _ ⟨⟨dm2, d3, j2, s + s, k' / 2, rm2, r3, by rw [← ek]; rfl, e2.trans e3, ?_, hm2.same e3, h3, dm2', mulD h3.nodup m3 z3 q3 ds' ds'⟩, ?_⟩
            · rw [← Nat.mul_two]; exact ej2
            · show ((k' : Int) / 2).toNat < k'
              rw [ek]; omega
        have eb : Builtin.bitAnd (k' : Int) 1 = ((k' % 2 : Nat) : Int) := by rw [PyProof.Rows.bitAnd_m1]; omega
        by_cases hpar : k' % 2 = 1
        · have e1 : V.bl (decide (V.int (Builtin.bitAnd (k' : Int) 1) = V.int 1)) = V.bl true := by rw [eb, hpar]; rfl
          refine ⟨_, rfl, _, _, rfl, rfl, rfl, true, e1, ?_⟩
          have hjs : j + s ≤ k := by
            have : s * 1 ≤ s * k' := Nat.mul_le_mul_left _ (by omega)
            omega
          obtain ⟨p1, p2⟩ := mulOk hjs dm' ds'
          refine ⟨_, rfl, _, rfl, dm, ds, rm, rs, rfl, hm, hs, dm'.mp, ds'.mp, dm'.fit (nk j (by omega)), ds'.fit (nk s (by omega)), p1, p2, fun d3 H3 r3 e3 _ h3 m3 z3 q3 => ?_⟩
          refine tail d3 H3 (j + s) r3 _ (fun σ' H' h => h) (e.trans e3) ?_ h3 (mulD h3.nodup m3 z3 q3 dm' ds') (hs.same e3)
          have h2 : k' = 2 * (k' / 2) + 1 := by omega
          have h3 : s * k' = s * 2 * (k' / 2) + s := by
            conv => lhs; rw [h2]
            rw [Nat.mul_add, Nat.mul_assoc, Nat.mul_one]
          omega
        · have e1 : V.bl (decide (V.int (Builtin.bitAnd (k' : Int) 1) = V.int 1)) = V.bl false := by
            have : k' % 2 = 0 := by omega
            rw [eb, this]; rfl
          refine ⟨_, rfl, _, _, rfl, rfl, rfl, false, e1, ?_⟩
          refine tail dm H1 j rm _ (fun σ' H' h => h) e ?_ hm dm' hs
          have h2 : k' = 2 * (k' / 2) := by omega
          have h3 : s * k' = s * 2 * (k' / 2) := by
            conv => lhs; rw [h2]
            rw [Nat.mul_assoc]
          omega
    · intro σ H Q Q' hQ h
      obtain ⟨v, h1, i, j, e1, e2, k, e3, h2⟩ := h
      exact ⟨v, h1, i, j, e1, e2, k, e3, hQ _ _ h2⟩
end
end K03
set_option Elab.async false
set_option linter.all false
set_option maxRecDepth 100000
set_option maxHeartbeats 4000000
/-! constant, variable, added, less, multiplied, power -/
namespace K03
open PySem PySem.Spec PyProof.Rows L2
section
variable {P : Program} {w : World} {K : PySem.W.Frag} {mg : Str → Option Value} {base : Heap} {f f1 f2 f3 : Addr} {fd fd1 fd2 fd3 : FuncData}
theorem checked_res {a : Addr} {k E : Poly} {H H1 : Hp} {Q : VK} {S : List Str} {l n : Nat} (e : Same H H1) (hk : NDAt K P w H1 a k) (hm : MP k) (ek : Eqv k E) (g : Gd S E l n) (hl : l ≤ 2000) (hn : n < 10 ^ 200) (hq : ∀ v H', Same H H' → Res K E v H' → Q v H') :
    spChecked K P w [.ref a] H1 Q E0 := by
  obtain ⟨c, ev⟩ := checked_canon hk.nodup hm
  exact ⟨a, k, rfl, hk, hm, Nat.le_trans (nzf_len hk.nodup hm ek) (Nat.le_trans g.len hl), fun t ht => Nat.lt_of_le_of_lt (Nat.le_trans (coef_small hk.nodup hm ek t ht) g.nr) hn, fun v H' e' hv => hq v H' (e.trans e') ⟨_, hv, c, ev.trans ek⟩⟩
def spConst (K : PySem.W.Frag) : Sp := fun vs H Q _ => ∃ c : Int, vs = [.int c] ∧ c.natAbs < 10 ^ 200 ∧ ∀ v H', Same H H' → Res K [([], c)] v H' → Q v H'
abbrev nConst : List Str := ["k"]
theorem scConst : FnScope nConst ["k"] (defScope (top 16)) := ⟨rfl, rfl, rfl, by decide +kernel, rfl, by decide +kernel, by decide +kernel⟩
theorem ok_const (F : FnP K "constant" 16 f fd) (G : FnOk P w K mg base CX0 3 f1 fd1 ["counts"] (spChecked K P w)) (b1 : Binds K fd1 ["counts"] []) (k1 : PySem.W.keepIn K (.ref f1) = true) (g1 : mg "checked" = some (.ref f1)) :
    FnOk P w K mg base CX0 4 f fd ["k"] (spConst K) := by
  refine F.ok scConst (fun vs H Q E h => ?_) (fun cdv A outer s H vs Q E hr h => ⟨_, PSs.nox (pss_one (ps_ret (pe_call G hr (by rfl) g1 k1 b1 .nil pass0 (pa_cons (pe_ndone hr.units pe_tup0 (pv 0)) pa_nil)))), ?_⟩)
  · obtain ⟨c, rfl, _⟩ := h; rfl
  · obtain ⟨c, rfl, hc, hq⟩ := h
    intro d od hd sd hnd l0 o0 hl0 hpl hso
    have hnd1 : NDAt K P w (upd (upd H d od) l0 o0) d [] := hnd.same (same_new hl0)
    refine ⟨_, rfl, l0, [], c, rfl, rfl, hnd1, ⟨[], hpl, .nil⟩, fun o1 so1 hn1 => ?_⟩
    exact checked_res (S := []) (((same_new hd).trans (same_new hl0)).mut hd) hn1 (fun t ht => by simp at ht; subst ht; exact CanonM.nil) (Eqv.refl _) (Gd.num c (Nat.le_refl _)) (by decide) hc hq
def spVar (K : PySem.W.Frag) : Sp := fun vs H Q _ => ∃ x : Str, vs = [.str x] ∧ ∀ v H', Same H H' → Dp K H' v (encP [([(x, 1)], 1)]) → Q v H'
abbrev nVar : List Str := ["name"]
theorem scVar : FnScope nVar ["name"] (defScope (top 17)) := ⟨rfl, rfl, rfl, by decide +kernel, rfl, by decide +kernel, by decide +kernel⟩
theorem ok_var (F : FnP K "variable" 17 f fd) : FnOk P w K mg base CX0 1 f fd ["name"] (spVar K) := by
  refine F.ok scVar (fun vs H Q E h => ?_) (fun cdv A outer s H vs Q E hr h => ⟨_, PSs.nox (pss_one (ps_ret (pe_tup (pa_cons (pe_tup (pa_cons (pe_tup (pa_cons (pe_tup (pa_cons (pv 0) (pa_cons pe_int pa_nil))) pa_nil)) (pa_cons pe_int pa_nil))) pa_nil)))), ?_⟩)
  · obtain ⟨c, rfl, _⟩ := h; rfl
  · obtain ⟨x, rfl, hq⟩ := h
    refine ⟨_, rfl, (by show 2 ≤ sizeLine; decide), fun a ha => ⟨(by show 1 ≤ sizeLine; decide), fun b hb => ⟨(by show 2 ≤ sizeLine; decide), fun c hc => ⟨(by show 1 ≤ sizeLine; decide), fun d hd => ?_⟩⟩⟩⟩
    have e1 := same_new (o := .tup [.str x, .int 1]) ha
    have e2 := same_new (o := .tup [.ref a]) hb
    have e3 := same_new (o := .tup [.ref b, .int 1]) hc
    have e4 := same_new (o := .tup [.ref c]) hd
    refine hq _ _ (e1.trans (e2.trans (e3.trans e4))) (Dp.newTup upd_same (.cons ?_ .nil))
    refine Dp.same (Dp.newTup (p := c) (xs := [.ref b, .int 1]) upd_same (.cons ?_ (.cons (.int _) .nil))) e4
    refine Dp.same (Dp.newTup (p := b) (xs := [.ref a]) upd_same (.cons ?_ .nil)) e3
    exact Dp.same (Dp.newTup (p := a) (xs := [.str x, .int 1]) upd_same (.cons (.str _) (.cons (.int _) .nil))) e2
theorem only_same {a : Addr} {H H1 H2 : Hp} (e : Same H H1) (o : Only a H1 H2) (ha : H a = none) : Same H H2 := fun b u hb => o b u (e b u hb) fun z => by rw [z, ha] at hb; cases hb
def spAdd (K : PySem.W.Frag) (sg : Poly → Poly) : Sp := fun vs H Q _ => ∃ x y S E1 E2 l1 n1 l2 n2, vs = [x, y] ∧ ResH K E1 x H ∧ ResH K E2 y H ∧ Gd S E1 l1 n1 ∧ Gd S E2 l2 n2 ∧ l1 + l2 ≤ 2000 ∧ n1 + n2 < 10 ^ 200 ∧
  ∀ v H', Same H H' → Res K (E1 ++ sg E2) v H' → Q v H'
abbrev nAdd : List Str := ["p", "q", "counts"]
theorem scAdd : FnScope nAdd ["p", "q"] (defScope (top 18)) := ⟨rfl, rfl, rfl, by decide +kernel, rfl, by decide +kernel, by decide +kernel⟩
theorem scLess : FnScope nAdd ["p", "q"] (defScope (top 19)) := ⟨rfl, rfl, rfl, by decide +kernel, rfl, by decide +kernel, by decide +kernel⟩
theorem add_reading {sg : Poly → Poly} {c : Int} (hc1 : -(2 ^ 64) < c) (hc2 : c < 2 ^ 64) (hsg : ∀ E φ, ev (sg E) φ = c * ev E φ) (hgd : ∀ {S E l n}, Gd S E l n → Gd S (sg E) l n) {H : Hp} {x y : V} {Q : VK} {E : XK} {D : Ends} {tc : TE} (htc : ∀ σ H Q, Q (.int c) H → tc σ H Q) (hD : D.rt = Q) (h : spAdd K sg [x, y] H Q E) :
    tSeq (tAsg (tCall (spCountsOf K P w) [] E0 (tCons (tVar 0) tNil)) (gName 2)) (tSeq (tDrop (tCall (spAddTimes K P w) [] E0 (tCons (tVar 2) (tCons (tCall (spCountsOf K P w) [] E0 (tCons (tVar 1) tNil)) (tCons tc tNil))))) (tRet (tCall (spChecked K P w) [] E0 (tCons (tVar 2) tNil)))) D (start nAdd [x, y]) H := by
  obtain ⟨_, _, S, E1, E2, l1, n1, l2, n2, eq, ⟨R1, p1, c1, e1⟩, ⟨R2, p2, c2, e2⟩, g1, g2, hl, hn, hq⟩ := h
  cases eq
  have len1 := Nat.le_trans (len_le mlt_irr c1 e1) g1.len
  have len2 := Nat.le_trans (len_le mlt_irr c2 e2) g2.len
  refine ⟨_, rfl, _, R1, rfl, p1, c1.nodup mlt_irr, fun a H1 s1 ha na => ?_⟩
  refine ⟨_, rfl, _, rfl, _, R2, rfl, p2.keep (.of s1), c2.nodup mlt_irr, fun b H2 s2 hb nb => htc _ _ _ ?_⟩
  have ne : a ≠ b := fun z => by
    obtain ⟨o, ho, _⟩ := na.there
    rw [z, hb] at ho
    cases ho
  refine ⟨a, b, c, R1, R2, rfl, na.same s2, nb, ne, c1.mono, c2.mono, hc1, hc2, Nat.lt_of_le_of_lt (Nat.le_trans (Nat.add_le_add len1 len2) hl) (by decide), fun H3 k' o3 n3 m3 ev3 => ?_⟩
  refine ⟨_, rfl, checked_res (only_same (s1.trans s2) o3 ha) n3 m3 (E := E1 ++ sg E2) (fun φ => ?_) (g1.app (hgd g2)) hl hn (by rw [hD]; exact hq)⟩
  rw [ev3 φ, ev_app, hsg, e1 φ, e2 φ]
theorem ok_added (F : FnP K "added" 18 f fd) (G : FnOk P w K mg base CX0 3 f1 fd1 ["counts"] (spChecked K P w)) (b1 : Binds K fd1 ["counts"] []) (k1 : PySem.W.keepIn K (.ref f1) = true) (g1 : mg "checked" = some (.ref f1))
    (G2 : FnOk P w K mg base CX0 2 f2 fd2 ["p"] (spCountsOf K P w)) (b2 : Binds K fd2 ["p"] []) (k2 : PySem.W.keepIn K (.ref f2) = true) (g2 : mg "counts_of" = some (.ref f2))
    (G3 : FnOk P w K mg base CX0 1 f3 fd3 ["counts", "other", "factor"] (spAddTimes K P w)) (b3 : Binds K fd3 ["counts", "other", "factor"] []) (k3 : PySem.W.keepIn K (.ref f3) = true) (g3 : mg "add_times" = some (.ref f3)) :
    FnOk P w K mg base CX0 4 f fd ["p", "q"] (spAdd K id) := by
  have nd := scAdd.nd
  refine F.ok scAdd (fun vs H Q E h => ?_) (fun cdv A outer s H vs Q E hr h => ⟨_, PSs.nox (pss_cons (ps_set (i := 2) nd rfl (.inl rfl) (pe_call G2 (hr.mono (by decide)) (by rfl) g2 k2 b2 .nil pass0 (pa_cons (pv 0) pa_nil)))
    (pss_cons (ps_expr (pe_call G3 (hr.mono (by decide)) (by rfl) g3 k3 b3 .nil pass0 (pa_cons (pv 2) (pa_cons (pe_call G2 (hr.mono (by decide)) (by rfl) g2 k2 b2 .nil pass0 (pa_cons (pv 1) pa_nil)) (pa_cons pe_int pa_nil)))))
    (pss_one (ps_ret (pe_call G hr (by rfl) g1 k1 b1 .nil pass0 (pa_cons (pv 2) pa_nil)))))), ?_⟩)
  · obtain ⟨x, y, S, E1, E2, l1, n1, l2, n2, rfl, _⟩ := h; rfl
  · obtain ⟨x, y, h'⟩ := id h
    obtain ⟨S, E1, E2, l1, n1, l2, n2, rfl, _⟩ := h'
    exact add_reading (c := 1) (sg := id) (by decide) (by decide) (fun E φ => by rw [Int.one_mul]; rfl) (fun g => g) (fun _ _ _ q => q) rfl h
theorem ok_less (F : FnP K "less" 19 f fd) (G : FnOk P w K mg base CX0 3 f1 fd1 ["counts"] (spChecked K P w)) (b1 : Binds K fd1 ["counts"] []) (k1 : PySem.W.keepIn K (.ref f1) = true) (g1 : mg "checked" = some (.ref f1))
    (G2 : FnOk P w K mg base CX0 2 f2 fd2 ["p"] (spCountsOf K P w)) (b2 : Binds K fd2 ["p"] []) (k2 : PySem.W.keepIn K (.ref f2) = true) (g2 : mg "counts_of" = some (.ref f2))
    (G3 : FnOk P w K mg base CX0 1 f3 fd3 ["counts", "other", "factor"] (spAddTimes K P w)) (b3 : Binds K fd3 ["counts", "other", "factor"] []) (k3 : PySem.W.keepIn K (.ref f3) = true) (g3 : mg "add_times" = some (.ref f3)) :
    FnOk P w K mg base CX0 4 f fd ["p", "q"] (spAdd K rneg) := by
  have nd := scLess.nd
  refine F.ok scLess (fun vs H Q E h => ?_) (fun cdv A outer s H vs Q E hr h => ⟨_, PSs.nox (pss_cons (ps_set (i := 2) nd rfl (.inl rfl) (pe_call G2 (hr.mono (by decide)) (by rfl) g2 k2 b2 .nil pass0 (pa_cons (pv 0) pa_nil)))
    (pss_cons (ps_expr (pe_call G3 (hr.mono (by decide)) (by rfl) g3 k3 b3 .nil pass0 (pa_cons (pv 2) (pa_cons (pe_call G2 (hr.mono (by decide)) (by rfl) g2 k2 b2 .nil pass0 (pa_cons (pv 1) pa_nil)) (pa_cons (pe_un un_neg pe_int) pa_nil)))))
    (pss_one (ps_ret (pe_call G hr (by rfl) g1 k1 b1 .nil pass0 (pa_cons (pv 2) pa_nil)))))), ?_⟩)
  · obtain ⟨x, y, S, E1, E2, l1, n1, l2, n2, rfl, _⟩ := h; rfl
  · obtain ⟨x, y, h'⟩ := id h
    obtain ⟨S, E1, E2, l1, n1, l2, n2, rfl, _⟩ := h'
    exact add_reading (c := -1) (sg := rneg) (by decide) (by decide) (fun E φ => by rw [ev_rneg]; omega) (fun g => g.neg) (fun _ _ _ q => ⟨_, rfl, q⟩) rfl h
def spMul (K : PySem.W.Frag) : Sp := fun vs H Q _ => ∃ x y S E1 E2 l1 n1 l2 n2, vs = [x, y] ∧ ResH K E1 x H ∧ ResH K E2 y H ∧ Gd S E1 l1 n1 ∧ Gd S E2 l2 n2 ∧ S.length ≤ 1000 ∧ l1 * l2 ≤ 2000 ∧ n1 * n2 < 10 ^ 200 ∧ n1 < 2 ^ 3000 ∧ n2 < 2 ^ 3000 ∧
  ∀ v H', Same H H' → Res K (rmul E1 E2) v H' → Q v H'
abbrev nMul : List Str := ["p", "q"]
theorem scMul : FnScope nMul ["p", "q"] (defScope (top 20)) := ⟨rfl, rfl, rfl, by decide +kernel, rfl, by decide +kernel, by decide +kernel⟩
theorem ok_mul (F : FnP K "multiplied" 20 f fd) (G : FnOk P w K mg base CX0 3 f1 fd1 ["counts"] (spChecked K P w)) (b1 : Binds K fd1 ["counts"] []) (k1 : PySem.W.keepIn K (.ref f1) = true) (g1 : mg "checked" = some (.ref f1))
    (G2 : FnOk P w K mg base CX0 2 f2 fd2 ["p"] (spCountsOf K P w)) (b2 : Binds K fd2 ["p"] []) (k2 : PySem.W.keepIn K (.ref f2) = true) (g2 : mg "counts_of" = some (.ref f2))
    (G3 : FnOk P w K mg base CX0 2 f3 fd3 ["one", "other"] (spProd K P w)) (b3 : Binds K fd3 ["one", "other"] []) (k3 : PySem.W.keepIn K (.ref f3) = true) (g3 : mg "counts_product" = some (.ref f3)) :
    FnOk P w K mg base CX0 4 f fd ["p", "q"] (spMul K) := by
  refine F.ok scMul (fun vs H Q E h => ?_) (fun cdv A outer s H vs Q E hr h => ⟨_, PSs.nox (pss_one (ps_ret (pe_call G hr (by rfl) g1 k1 b1 .nil pass0 (pa_cons (pe_call G3 (hr.mono (by decide)) (by rfl) g3 k3 b3 .nil pass0
    (pa_cons (pe_call G2 (hr.mono (by decide)) (by rfl) g2 k2 b2 .nil pass0 (pa_cons (pv 0) pa_nil)) (pa_cons (pe_call G2 (hr.mono (by decide)) (by rfl) g2 k2 b2 .nil pass0 (pa_cons (pv 1) pa_nil)) pa_nil))) pa_nil)))), ?_⟩)
  · obtain ⟨x, y, S, E1, E2, l1, n1, l2, n2, rfl, _⟩ := h; rfl
  · obtain ⟨x, y, S, E1, E2, l1, n1, l2, n2, rfl, ⟨R1, p1, c1, e1⟩, ⟨R2, p2, c2, e2⟩, gd1, gd2, hS, hl, hn, hn1, hn2, hq⟩ := h
    refine ⟨_, rfl, _, R1, rfl, p1, c1.nodup mlt_irr, fun a H1 s1 ha na => ?_⟩
    refine ⟨_, rfl, _, R2, rfl, p2.keep (.of s1), c2.nodup mlt_irr, fun b H2 s2 hb nb => ?_⟩
    have d1 := dOk (c1.nodup mlt_irr) c1.mono c1.nz e1 gd1
    have d2 := dOk (c2.nodup mlt_irr) c2.mono c2.nz e2 gd2
    refine ⟨a, b, R1, R2, rfl, na.same s2, nb, c1.mono, c2.mono, d1.fit hn1, d2.fit hn2, Nat.lt_of_le_of_lt (Nat.le_trans (Nat.mul_le_mul d1.len d2.len) hl) (by decide), fun x hx y hy => ?_, fun d H3 r s3 _ n3 m3 z3 q3 => ?_⟩
    · have h3 := d1.ml x hx
      have h4 := d2.ml y hy
      have h5 : 2000 < sizeLine := by decide
      omega
    · exact checked_res ((s1.trans s2).trans s3) n3 m3 (q3.trans (eqv_mul e1 e2)) (gd1.mul gd2) hl hn hq
def spPower (K : PySem.W.Frag) : Sp := fun vs H Q _ => ∃ x k S E l n, vs = [x, .int (k : Nat)] ∧ ResH K E x H ∧ Gd S E l n ∧ 1 ≤ l ∧ 1 ≤ n ∧ k ≤ 100 ∧ l ^ k ≤ 2000 ∧ n ^ k < 10 ^ 200 ∧ S.length ≤ 1000 ∧ ∀ v H', Same H H' → Res K (rpow E k) v H' → Q v H'
abbrev nPower : List Str := ["p", "k"]
theorem scPower : FnScope nPower ["p", "k"] (defScope (top 21)) := ⟨rfl, rfl, rfl, by decide +kernel, rfl, by decide +kernel, by decide +kernel⟩
theorem ok_power (F : FnP K "power" 21 f fd) (G : FnOk P w K mg base CX0 3 f1 fd1 ["counts"] (spChecked K P w)) (b1 : Binds K fd1 ["counts"] []) (k1 : PySem.W.keepIn K (.ref f1) = true) (g1 : mg "checked" = some (.ref f1))
    (G2 : FnOk P w K mg base CX0 2 f2 fd2 ["p"] (spCountsOf K P w)) (b2 : Binds K fd2 ["p"] []) (k2 : PySem.W.keepIn K (.ref f2) = true) (g2 : mg "counts_of" = some (.ref f2))
    (G3 : FnOk P w K mg base CX0 3 f3 fd3 ["one", "k"] (spPow K P w)) (b3 : Binds K fd3 ["one", "k"] []) (k3 : PySem.W.keepIn K (.ref f3) = true) (g3 : mg "counts_power" = some (.ref f3)) :
    FnOk P w K mg base CX0 4 f fd ["p", "k"] (spPower K) := by
  refine F.ok scPower (fun vs H Q E h => ?_) (fun cdv A outer s H vs Q E hr h => ⟨_, PSs.nox (pss_one (ps_ret (pe_call G hr (by rfl) g1 k1 b1 .nil pass0 (pa_cons (pe_call G3 hr (by rfl) g3 k3 b3 .nil pass0
    (pa_cons (pe_call G2 (hr.mono (by decide)) (by rfl) g2 k2 b2 .nil pass0 (pa_cons (pv 0) pa_nil)) (pa_cons (pv 1) pa_nil))) pa_nil)))), ?_⟩)
  · obtain ⟨x, k, S, E1, l1, n1, rfl, _⟩ := h; rfl
  · obtain ⟨x, k, S, E1, l, n, rfl, ⟨R1, p1, c1, e1⟩, gd1, hl1, hn1, hk, hl, hn, hS, hq⟩ := h
    refine ⟨_, rfl, _, R1, rfl, p1, c1.nodup mlt_irr, fun a H1 s1 ha na => ?_⟩
    refine ⟨_, rfl, a, k, R1, S, E1, l, n, rfl, na, dOk (c1.nodup mlt_irr) c1.mono c1.nz e1 gd1, gd1, hl1, hn1, hk, hl, Nat.lt_trans hn (by decide +kernel), hS, fun d H2 r s2 n2 d2 => ?_⟩
    exact checked_res (s1.trans s2) n2 d2.mp d2.eq (gd1.pow k) hl hn hq
end
end K03
set_option Elab.async false
set_option linter.all false
set_option maxRecDepth 100000
set_option maxHeartbeats 4000000
/-! variables, degree_in -/
namespace K03
open PySem PySem.Spec PyProof.Rows L2
abbrev WalkB (J : It) (B : V → Hp → (Hp → Prop) → Prop) (Qd : Hp → Prop) (Hs : Hp) : Prop := ∃ W : Nat → Nat → Hp → Prop, (∃ m, W 0 m Hs) ∧ ∀ i m H, W i m H →
  (J.stop i H ∧ Qd H) ∨ (J.go i H ∧ ∃ Nx : Hp → Prop, (∀ H', Nx H' → ∃ m', m' < m ∧ W (i + 1) m' H') ∧ ∀ x H', J.yld i H x H' → B x H' Nx)
section
variable {K : PySem.W.Frag} {a : Addr} {xs : List V} {H0 Hs : Hp} {B : V → Hp → (Hp → Prop) → Prop} {Qd : Hp → Prop}
theorem walk_l (Pv : Nat → Hp → Prop) (h0 : Pv 0 Hs) (hl : ∀ i H, Pv i H → SqL K H a xs) (hs : ∀ (i : Nat) x H, xs[i]? = some x → Pv i H → B x H (Pv (i + 1))) (hd : ∀ H, Pv xs.length H → Qd H) : WalkB (Itl K a) B Qd Hs := by
  refine ⟨fun i m H => m = xs.length - i ∧ i ≤ xs.length ∧ Pv i H, ⟨xs.length, by simp, Nat.zero_le _, h0⟩, ?_⟩
  rintro i m H ⟨rfl, hi, p⟩
  have hq := hl i H p
  by_cases hlt : i < xs.length
  · have hx : xs[i]? = some xs[i] := List.getElem?_eq_getElem hlt
    refine .inr ⟨⟨xs, _, hq, hx⟩, Pv (i + 1), fun H' p' => ⟨xs.length - (i + 1), by omega, rfl, hlt, p'⟩, ?_⟩
    rintro x H' ⟨rfl, hy⟩
    exact hs i x _ (hy xs hq) p
  · have e : i = xs.length := by omega
    subst e
    exact .inl ⟨⟨xs, hq, Nat.le_refl _⟩, hd H p⟩
theorem walk_t (Pv : Nat → Hp → Prop) (h0 : Pv 0 Hs) (hl : ∀ i H, Pv i H → SqT K H a xs) (hs : ∀ (i : Nat) x H, xs[i]? = some x → Pv i H → B x H (Pv (i + 1))) (hd : ∀ H, Pv xs.length H → Qd H) : WalkB (Itt K a) B Qd Hs := by
  refine ⟨fun i m H => m = xs.length - i ∧ i ≤ xs.length ∧ Pv i H, ⟨xs.length, by simp, Nat.zero_le _, h0⟩, ?_⟩
  rintro i m H ⟨rfl, hi, p⟩
  have hq := hl i H p
  by_cases hlt : i < xs.length
  · have hx : xs[i]? = some xs[i] := List.getElem?_eq_getElem hlt
    refine .inr ⟨⟨xs, _, hq, hx⟩, Pv (i + 1), fun H' p' => ⟨xs.length - (i + 1), by omega, rfl, hlt, p'⟩, ?_⟩
    rintro x H' ⟨rfl, hy⟩
    exact hs i x _ (hy xs hq) p
  · have e : i = xs.length := by omega
    subst e
    exact .inl ⟨⟨xs, hq, Nat.le_refl _⟩, hd H p⟩
theorem walk_seq (h : SqX K H0 a xs) (e0 : Keep H0 Hs) (Pv : Nat → Hp → Prop) (h0 : Pv 0 Hs) (hl : ∀ i H, Pv i H → Keep H0 H) (hs : ∀ (i : Nat) x H, xs[i]? = some x → Pv i H → B x H (Pv (i + 1))) (hd : ∀ H, Pv xs.length H → Qd H) :
    (∃ xs, SqL K Hs a xs ∧ (xs.length ≤ sizeLine → WalkB (Itl K a) B Qd Hs)) ∨ (∃ xs, SqT K Hs a xs ∧ (xs.length ≤ sizeLine → WalkB (Itt K a) B Qd Hs)) := by
  rcases h with h | h
  · exact .inl ⟨xs, sqL_keep e0 h, fun _ => walk_l Pv h0 (fun i H p => sqL_keep (hl i H p) h) hs hd⟩
  · exact .inr ⟨xs, sqT_keep e0 h, fun _ => walk_t Pv h0 (fun i H p => sqT_keep (hl i H p) h) hs hd⟩
theorem walk_seqD {Qd : Addr → Hp → Prop} {ob : Addr → HO} {T : Addr → Prop} {B : Addr → V → Hp → (Hp → Prop) → Prop} (h : SqX K H0 a xs) (e0 : Keep H0 Hs) (Pv : Addr → Nat → Hp → Prop) (h0 : ∀ D, Hs D = none → T D → Pv D 0 (upd Hs D (ob D))) (hl : ∀ D i H, Hs D = none → Pv D i H → Keep H0 H) (hs : ∀ D (i : Nat) x H, Hs D = none → xs[i]? = some x → Pv D i H → B D x H (Pv D (i + 1))) (hd : ∀ D H, Hs D = none → Pv D xs.length H → Qd D H) :
    (∃ xs, SqL K Hs a xs ∧ (xs.length ≤ sizeLine → ∀ D, Hs D = none → T D → WalkB (Itl K a) (B D) (Qd D) (upd Hs D (ob D)))) ∨ (∃ xs, SqT K Hs a xs ∧ (xs.length ≤ sizeLine → ∀ D, Hs D = none → T D → WalkB (Itt K a) (B D) (Qd D) (upd Hs D (ob D)))) := by
  rcases h with h | h
  · exact .inl ⟨xs, sqL_keep e0 h, fun _ D hD hT => walk_l (Pv D) (h0 D hD hT) (fun i H p => sqL_keep (hl D i H hD p) h) (fun i x H hx p => hs D i x H hD hx p) (hd D · hD)⟩
  · exact .inr ⟨xs, sqT_keep e0 h, fun _ D hD hT => walk_t (Pv D) (h0 D hD hT) (fun i H p => sqT_keep (hl D i H hD p) h) (fun i x H hx p => hs D i x H hD hx p) (hd D · hD)⟩
theorem walk_seqE {Qd : Addr → Hp → Prop} {ob : Addr → HO} {B : Addr → V → Hp → (Hp → Prop) → Prop} (h : SqX K H0 a xs) (e0 : Keep H0 Hs) (Pv : Addr → Nat → Hp → Prop) (h0 : ∀ D, Hs D = none → Pv D 0 (upd Hs D (ob D))) (hl : ∀ D i H, Hs D = none → Pv D i H → Keep H0 H) (hs : ∀ D (i : Nat) x H, Hs D = none → xs[i]? = some x → Pv D i H → B D x H (Pv D (i + 1))) (hd : ∀ D H, Hs D = none → Pv D xs.length H → Qd D H) :
    (∃ xs, SqL K Hs a xs ∧ (xs.length ≤ sizeLine → ∀ D, Hs D = none → WalkB (Itl K a) (B D) (Qd D) (upd Hs D (ob D)))) ∨ (∃ xs, SqT K Hs a xs ∧ (xs.length ≤ sizeLine → ∀ D, Hs D = none → WalkB (Itt K a) (B D) (Qd D) (upd Hs D (ob D)))) := by
  rcases h with h | h
  · exact .inl ⟨xs, sqL_keep e0 h, fun _ D hD => walk_l (Pv D) (h0 D hD) (fun i H p => sqL_keep (hl D i H hD p) h) (fun i x H hx p => hs D i x H hD hx p) (hd D · hD)⟩
  · exact .inr ⟨xs, sqT_keep e0 h, fun _ D hD => walk_t (Pv D) (h0 D hD) (fun i H p => sqT_keep (hl D i H hD p) h) (fun i x H hx p => hs D i x H hD hx p) (hd D · hD)⟩
end
/-- a set of names as a dict -/
def kvN (n : Str) : Key × V := (.inr n, .bl true)
def lput (L : List Str) (n : Str) : List Str := if n ∈ L then L else L ++ [n]
theorem put_kvN (L : List Str) (n : Str) : putK (L.map kvN) (.inr n) (.bl true) = (lput L n).map kvN := by
  have dec : ∀ q : Str, decide ((kvN q).1 = (Sum.inr n : Key)) = decide (q = n) := fun q => by
    by_cases h : q = n
    · rw [decide_eq_true h]; exact decide_eq_true (by rw [← h]; rfl)
    · rw [decide_eq_false h]; exact decide_eq_false fun z => by
        have z' : (Sum.inr q : Key) = Sum.inr n := z
        injection z' with z'
        exact h z'
  have ea : ((L.map kvN).any fun kv => decide (kv.1 = (Sum.inr n : Key))) = L.any fun q => decide (q = n) := by
    rw [List.any_map]
    exact congrArg (L.any ·) (funext dec)
  unfold putK lput
  rw [ea]
  by_cases h : n ∈ L
  · rw [if_pos h, if_pos (List.any_eq_true.mpr ⟨n, h, decide_eq_true rfl⟩), List.map_map]
    refine List.map_congr_left fun q _ => ?_
    show (if (kvN q).1 = (Sum.inr n : Key) then ((kvN q).1, V.bl true) else kvN q) = kvN q
    split <;> rfl
  · rw [if_neg h, if_neg, List.map_append]
    · rfl
    · intro z
      obtain ⟨q, h1, h2⟩ := List.any_eq_true.mp z
      exact h (of_decide_eq_true h2 ▸ h1)
theorem mem_lput {L : List Str} {n x : Str} : x ∈ lput L n ↔ x ∈ L ∨ x = n := by
  unfold lput
  by_cases h : n ∈ L
  · rw [if_pos h]
    exact ⟨.inl, fun z => z.elim id fun e => e ▸ h⟩
  · rw [if_neg h, List.mem_append, List.mem_singleton]
theorem nodup_lput {L : List Str} {n : Str} (h : L.Nodup) : (lput L n).Nodup := by
  unfold lput
  by_cases z : n ∈ L
  · rw [if_pos z]; exact h
  · rw [if_neg z, List.nodup_append]
    exact ⟨h, by simp, fun a ha b hb => by simp at hb; subst hb; exact fun e => z (e ▸ ha)⟩
theorem names_take {p : Poly} {i : Nat} {t : Mono × Int} (h : p[i]? = some t) (x : Str) : x ∈ namesOf (p.take (i + 1)) ↔ x ∈ namesOf (p.take i) ∨ x ∈ nms t.1 := by
  unfold namesOf
  rw [take_at h, List.flatMap_append, List.mem_append]
  simp
theorem nms_take {m : Mono} {i : Nat} {q : Str × Int} (h : m[i]? = some q) (x : Str) : x ∈ nms (m.take (i + 1)) ↔ x ∈ nms (m.take i) ∨ x = q.1 := by
  unfold nms
  rw [take_at h, List.map_append, List.mem_append]
  simp
section
variable {P : Program} {w : World} {K : PySem.W.Frag} {mg : Str → Option Value} {base : Heap} {f f1 f2 f3 : Addr} {fd fd1 fd2 fd3 : FuncData}
def spVars (K : PySem.W.Frag) : Sp := fun vs H Q _ => ∃ (x : V) (R : Poly) (S : List Str), vs = [x] ∧ PAt K H x R ∧ Over (· ∈ S) R ∧ S.length ≤ 1000 ∧ ∀ (v : V) (H' : Hp) (ns : List Str), Same H H' → Dp K H' v (.tuple (ns.map PyData.str)) → ns.Pairwise nlt → (∀ x, x ∈ ns ↔ x ∈ namesOf R) → Q v H'
abbrev nVars : List Str := ["p", "monomial", "_", "name"]
theorem scVars : FnScope nVars ["p"] (defScope (top 22)) := ⟨rfl, rfl, rfl, by decide +kernel, rfl, by decide +kernel, by decide +kernel⟩
theorem ok_vars (F : FnP K "variables" 22 f fd) (gT : mg "tuple" = none) (gS : mg "sorted" = none) (gL : mg "list" = none) : FnOk P w K mg base CX0 1 f fd ["p"] (spVars K) := by
  have nd := scVars.nd
  refine F.ok scVars (fun vs H Q E h => ?_) (fun cdv A outer s H vs Q E hr h => ⟨_, PSs.nox (pss_one (ps_ret (pe_callTy call_tuple_of (by rfl) gT PyProof.Rows.boot_tuple (pa_cons (pe_callB (call_sortedD (enc := PyData.str) hr.units) (by rfl) gS boot_sorted (pa_cons (pe_callTy (call_list_dK rfl) (by rfl) gL PyProof.Rows.boot_list (pa_cons
    (pe_dcF2 (own := [("monomial", 1), ("_", 2), ("name", 3)]) (vs1 := [3, 2]) (g := gSeq K 2 (gCons (gName 1) (gCons (gName 2) gNil))) (tt := tYes) (wi1 := iSeq K (tVar 1)) (g1 := gSeq K 2 (gCons (gName 3) (gCons (gName 2) gNil))) (tt1 := tYes) (tk := tVar 3) (tv := tC (.bl true)) (fillK _) rfl nd (pi_seq (pv 0))
      (blkOk_by (own := [("monomial", 1), ("_", 2), ("name", 3)]) (N := nVars) (sc := defScope (top 22)) (by decide +kernel)) (by decide)
      (fun _ _ _ _ _ => pg_seq rfl (pgs_cons (pg_name (i := 1) nd rfl (.inl rfl)) (pgs_cons (pg_name (i := 2) nd rfl (.inl rfl)) pgs_nil))) (fun _ _ _ _ _ => pts_nil)
      (fun _ _ _ _ _ => pi_seq (pv 1)) (fun _ _ _ _ _ => pg_seq rfl (pgs_cons (pg_name (i := 3) nd rfl (.inl rfl)) (pgs_cons (pg_name (i := 2) nd rfl (.inl rfl)) pgs_nil))) (fun _ _ _ _ _ => pts_nil)
      (fun _ _ _ _ _ => pv 3) (fun _ _ _ _ _ => pe_bl)) pa_nil)) pa_nil)) pa_nil)))), ?_⟩)
  · obtain ⟨x, R, S, rfl, _⟩ := h; rfl
  · obtain ⟨v, R, S, rfl, ⟨a, xs, rfl, hsq, hp⟩, ho, hS, hq⟩ := h
    have big : 1000 < sizeLine := by decide
    refine ⟨_, rfl, a, rfl, walk_seqD (T := fun D => (D == sysModules) = false) hsq (Keep.refl _) (fun D i H' => ∃ L : List Str, Same H H' ∧ H' D = some (.dK (L.map kvN)) ∧ L.Nodup ∧ ∀ x, x ∈ L ↔ x ∈ namesOf (R.take i)) ?_ ?_ ?_ ?_⟩
    · exact fun D hD _ => ⟨[], same_new hD, upd_same, .nil, fun x => by simp [namesOf]⟩
    · exact fun D i H' hD ⟨L, e, _⟩ => .of e
    · rintro D i x H' hD hx ⟨L, e, eD, hn, hL⟩
      obtain ⟨t, ht, a2, y, rfl, hs2, a3, ys, rfl, hs3, hm⟩ := paired_at hp hx
      refine ⟨a2, _, rfl, hs2.keep (.of e), rfl, _, _, rfl, _, _, rfl, rfl, rfl, ?_⟩
      refine ⟨_, rfl, a3, rfl, walk_seq hs3 (.of e) (fun j H2 => ∃ L : List Str, Same H H2 ∧ H2 D = some (.dK (L.map kvN)) ∧ L.Nodup ∧ ∀ x, x ∈ L ↔ x ∈ namesOf (R.take i) ∨ x ∈ nms (t.1.take j)) ?_ ?_ ?_ ?_⟩
      · exact ⟨L, e, eD, hn, fun x => by rw [hL x]; simp [nms]⟩
      · exact fun j H2 ⟨L, e, _⟩ => .of e
      · rintro j z H2 hz ⟨L2, e2, eD2, hn2, hL2⟩
        obtain ⟨q, hq0, a4, rfl, hs4⟩ := paired_at hm hz
        refine ⟨a4, _, rfl, hs4.keep (.of e2), rfl, _, _, rfl, _, _, rfl, rfl, rfl, ?_⟩
        have hin : ∀ x ∈ L2, x ∈ S := fun x hx => by
          rcases (hL2 x).mp hx with z | z
          · obtain ⟨s, hs, hy⟩ := List.mem_flatMap.mp z
            obtain ⟨r, hr, rfl⟩ := List.mem_map.mp hy
            exact ho s (List.mem_of_mem_take hs) r hr
          · obtain ⟨r, hr, rfl⟩ := List.mem_map.mp z
            exact ho t (List.mem_of_getElem? ht) r (List.mem_of_mem_take hr)
        have hlen := nodup_len hn2 hin
        refine ⟨_, rfl, _, .inr q.1, rfl, eD2, (by rw [List.length_map]; omega), ?_⟩
        rw [put_kvN]
        refine ⟨lput L2 q.1, e2.mut hD, upd_same, nodup_lput hn2, fun x => ?_⟩
        rw [mem_lput, hL2 x, nms_take hq0]
        exact or_assoc
      · rintro H2 ⟨L2, e2, eD2, hn2, hL2⟩
        refine ⟨L2, e2, eD2, hn2, fun x => ?_⟩
        rw [hL2 x, names_take ht, ← hm.length, List.take_length]
    · rintro D H' hD ⟨L, e, eD, hn, hL⟩
      rw [← hp.length, List.take_length] at hL
      refine ⟨D, L.map kvN, rfl, eD, fun l hl => ?_⟩
      have el : (L.map kvN).map (fun kv => kV kv.1) = L.map V.str := by rw [List.map_map]; rfl
      rw [el]
      refine ⟨fun n x => x = .str n, l, L.map V.str, L, rfl, SqX.of_l upd_same, ?_, fun n x h => by rw [h]; exact .str n, sortOkN L, fun ys p hys hp0 => ?_⟩
      · clear el hL hn eD
        induction L with
        | nil => exact .nil
        | cons n L ih => exact .cons rfl ih
      · refine ⟨p, ys, rfl, .inl ⟨SqX.of_l upd_same, fun m hm0 => hq _ _ (sortN L) (e.trans ((same_new hl).trans ((same_new hp0).trans (same_new hm0)))) (Dp.newTup upd_same (pair_dpAll (fun n x h => by rw [h]; exact .str n) hys)) (sortN_rise hn) fun x => ?_⟩⟩
        rw [← hL x]
        exact (List.mergeSort_perm L (PySem.W.dataLe false PyData.str)).mem_iff
def exps (x : Str) (m : Mono) : List Int := (m.filter fun q => decide (q.1 = x)).map (·.2)
def allExps (x : Str) (p : Poly) : List Int := p.flatMap fun t => exps x t.1
theorem exps_deg {R : Poly} {x : Str} (hm : MP R) : (allExps x R = [] → DegIs R x 0) ∧ ∀ m ∈ allExps x R, (∀ n ∈ allExps x R, n ≤ m) → DegIs R x m := by
  have h1 : ∀ t ∈ R, ex t.1 x ≠ 0 → ex t.1 x ∈ allExps x R := fun t ht h => List.mem_flatMap.mpr ⟨t, ht, List.mem_map.mpr ⟨(x, ex t.1 x), List.mem_filter.mpr ⟨mem_of_ex h, decide_eq_true rfl⟩, rfl⟩⟩
  refine ⟨fun e => ⟨fun t ht => ?_, Int.le_refl _, .inl rfl⟩, fun m hmem hmax => ?_⟩
  · by_cases h : ex t.1 x = 0
    · omega
    · have := h1 t ht h
      rw [e] at this
      cases this
  · obtain ⟨t, ht, hq⟩ := List.mem_flatMap.mp hmem
    obtain ⟨q, hq1, rfl⟩ := List.mem_map.mp hq
    obtain ⟨hq2, hq3⟩ := List.mem_filter.mp hq1
    have hq3 : q.1 = x := of_decide_eq_true hq3
    have hpos := (hm t ht).pos q hq2
    refine ⟨fun s hs => ?_, by omega, .inr ⟨t, ht, by rw [← hq3]; exact ex_of_mem (hm t ht) hq2⟩⟩
    by_cases h : ex s.1 x = 0
    · omega
    · exact hmax _ (h1 s hs h)
theorem allExps_len {x : Str} : ∀ {p : Poly}, (∀ t ∈ p, t.1.length ≤ 1000) → (allExps x p).length ≤ p.length * 1000
  | [], _ => Nat.zero_le _
  | t :: p, h => by
    have h1 := allExps_len (x := x) (p := p) fun s hs => h s (.tail _ hs)
    have h2 := h t (.head _)
    have h3 : (exps x t.1).length ≤ t.1.length := by
      unfold exps
      rw [List.length_map]
      exact List.length_filter_le _ _
    unfold allExps at h1 ⊢
    rw [List.flatMap_cons, List.length_append, List.length_cons]
    omega
def spDeg (K : PySem.W.Frag) : Sp := fun vs H Q _ => ∃ v x R, vs = [v, .str x] ∧ PAt K H v R ∧ MP R ∧ R.length ≤ 2000 ∧ (∀ t ∈ R, t.1.length ≤ 1000) ∧ ∀ d H', Same H H' → DegIs R x d → Q (.int d) H'
abbrev nDeg : List Str := ["p", "variable", "monomial", "_", "name", "exponent"]
theorem scDeg : FnScope nDeg ["p", "variable"] (defScope (top 23)) := ⟨rfl, rfl, rfl, by decide +kernel, rfl, by decide +kernel, by decide +kernel⟩
theorem ok_deg (F : FnP K "degree_in" 23 f fd) (gM : mg "max" = none) : FnOk P w K mg base CX0 1 f fd ["p", "variable"] (spDeg K) := by
  have nd := scDeg.nd
  refine F.ok scDeg (fun vs H Q E h => ?_) (fun cdv A outer s H vs Q E hr h => ⟨_, PSs.nox (pss_one (ps_ret (pe_callBK (call_maxD rfl hr.units) (by rfl) gM PyProof.Rows.boot_max (pa_cons
    (pe_lc2 (own := [("monomial", 2), ("_", 3), ("name", 4), ("exponent", 5)]) (vs1 := [4, 5]) (g := gSeq K 2 (gCons (gName 2) (gCons (gName 3) gNil))) (tt := tYes) (wi1 := iSeq K (tVar 2)) (g1 := gSeq K 2 (gCons (gName 4) (gCons (gName 5) gNil))) (tt1 := tTest (tOp rEq (tVar 4) (tVar 1))) (te := tVar 5) rfl nd (pi_seq (pv 0))
      (blkOk_by (own := [("monomial", 2), ("_", 3), ("name", 4), ("exponent", 5)]) (N := nDeg) (sc := defScope (top 23)) (by decide +kernel)) (by decide)
      (fun _ _ _ _ _ => pg_seq rfl (pgs_cons (pg_name (i := 2) nd rfl (.inl rfl)) (pgs_cons (pg_name (i := 3) nd rfl (.inl rfl)) pgs_nil))) (fun _ _ _ _ _ => pts_nil)
      (fun _ _ _ _ _ => pi_seq (pv 2)) (fun _ _ _ _ _ => pg_seq rfl (pgs_cons (pg_name (i := 4) nd rfl (.inl rfl)) (pgs_cons (pg_name (i := 5) nd rfl (.inl rfl)) pgs_nil))) (fun _ _ _ _ _ => pts_one (pt_cmpR op_eq (pv 4) (pv 1) (nomark _)))
      (fun _ _ _ _ _ => pv 5)) pa_nil) (pk_cons pe_int pk_nil)))), ?_⟩)
  · obtain ⟨v, x, R, rfl, _⟩ := h; rfl
  · obtain ⟨v, x, R, rfl, ⟨a, xs, rfl, hsq, hp⟩, hm, hRl, hml, hq⟩ := h
    have big : 2001 * 1000 < sizeLine := by decide
    refine ⟨_, rfl, a, rfl, walk_seqE (ob := fun _ => .lst []) hsq (Keep.refl _) (fun D i H' => Same H H' ∧ H' D = some (.lst ((allExps x (R.take i)).map V.int))) ?_ ?_ ?_ ?_⟩
    · exact fun D hD => ⟨same_new hD, upd_same⟩
    · exact fun D i H' hD ⟨e, _⟩ => .of e
    · rintro D i y H' hD hy ⟨e, eD⟩
      obtain ⟨t, ht, a2, z, rfl, hs2, a3, ys, rfl, hs3, hmm⟩ := paired_at hp hy
      have hi := (List.getElem?_eq_some_iff.mp ht).1
      refine ⟨a2, _, rfl, hs2.keep (.of e), rfl, _, _, rfl, _, _, rfl, rfl, rfl, ?_⟩
      refine ⟨_, rfl, a3, rfl, walk_seq hs3 (.of e) (fun j H2 => Same H H2 ∧ H2 D = some (.lst ((allExps x (R.take i) ++ exps x (t.1.take j)).map V.int))) ?_ ?_ ?_ ?_⟩
      · refine ⟨e, ?_⟩
        rw [eD]
        simp [exps]
      · exact fun j H2 ⟨e, _⟩ => .of e
      · rintro j u H2 hu ⟨e2, eD2⟩
        obtain ⟨q, hq0, a4, rfl, hs4⟩ := paired_at hmm hu
        refine ⟨a4, _, rfl, hs4.keep (.of e2), rfl, _, _, rfl, _, _, rfl, rfl, rfl, ?_⟩
        have ef := filter_at (k := fun q : Str × Int => decide (q.1 = x)) hq0
        have hqm := (List.getElem?_eq_some_iff.mp hq0).1
        by_cases hx : q.1 = x
        · refine ⟨_, rfl, _, rfl, rfl, true, (by show V.bl (decide (V.str q.1 = V.str x)) = _; rw [hx]; simp), ?_⟩
          refine ⟨_, rfl, _, eD2, ?_, e2.mut hD, ?_⟩
          · have h1 := allExps_len (x := x) (p := R.take i) fun s hs => hml s (List.mem_of_mem_take hs)
            have h2 : (R.take i).length ≤ 2000 := Nat.le_trans (List.length_take_le ..) (by omega)
            have h3 : (exps x (t.1.take j)).length ≤ 1000 := by
              unfold exps
              rw [List.length_map]
              refine Nat.le_trans (List.length_filter_le _ _) ?_
              rw [List.length_take]
              have := hml t (List.mem_of_getElem? ht)
              omega
            have h4 := Nat.mul_le_mul_right 1000 h2
            rw [List.length_map, List.length_append]
            omega
          · rw [upd_same]
            unfold exps
            rw [ef, if_pos (decide_eq_true hx)]
            simp
        · refine ⟨_, rfl, _, rfl, rfl, false, (by show V.bl (decide (V.str q.1 = V.str x)) = _; simp [hx]), ?_⟩
          refine ⟨e2, ?_⟩
          rw [eD2]
          unfold exps
          rw [ef, if_neg (by simp [hx])]
          simp
      · rintro H2 ⟨e2, eD2⟩
        refine ⟨e2, ?_⟩
        rw [eD2, ← hmm.length, List.take_length]
        unfold allExps
        rw [take_at ht, List.flatMap_append]
        simp
    · rintro D H' hD ⟨e, eD⟩
      rw [← hp.length, List.take_length] at eD
      obtain ⟨d0, d1⟩ := exps_deg (x := x) hm
      exact ⟨D, allExps x R, 0, rfl, rfl, SqX.of_l eD, fun z => hq 0 H' e (d0 z), fun m hmem hmax => hq m H' e (d1 m hmem hmax)⟩
end
end K03
set_option Elab.async false
set_option linter.all false
set_option maxRecDepth 100000
set_option maxHeartbeats 4000000
/-! the tape: made, loaded, drawn from -/
namespace K03
open PySem PySem.Spec PyProof.Rows L2
abbrev kx (x : Str) : Key := .inr x
def tkv (c : Addr) (n v d m s : Int) : List (Key × V) := [(kx "cells", .ref c), (kx "at", .int n), (kx "value", .int v), (kx "digits", .int d), (kx "mixed", .int m), (kx "salt", .int s)]
section
variable (c : Addr) (n v d m s i : Int)
theorem tk_cells : valV (tkv c n v d m s) (kx "cells") = some (.ref c) := by rfl
theorem tk_at : valV (tkv c n v d m s) (kx "at") = some (.int n) := by rfl
theorem tk_value : valV (tkv c n v d m s) (kx "value") = some (.int v) := by rfl
theorem tk_digits : valV (tkv c n v d m s) (kx "digits") = some (.int d) := by rfl
theorem tk_mixed : valV (tkv c n v d m s) (kx "mixed") = some (.int m) := by rfl
theorem tk_salt : valV (tkv c n v d m s) (kx "salt") = some (.int s) := by rfl
theorem tp_at : putK (tkv c n v d m s) (kx "at") (.int i) = tkv c i v d m s := by rfl
theorem tp_value : putK (tkv c n v d m s) (kx "value") (.int i) = tkv c n i d m s := by rfl
theorem tp_digits : putK (tkv c n v d m s) (kx "digits") (.int i) = tkv c n v i m s := by rfl
theorem tp_mixed : putK (tkv c n v d m s) (kx "mixed") (.int i) = tkv c n v d i s := by rfl
theorem tp_salt : putK (tkv c n v d m s) (kx "salt") (.int i) = tkv c n v d m i := by rfl
theorem tk_made : mergeK [] (tkv c n v d m s) = tkv c n v d m s := by rfl
end
/-- the tape stands at t, the number at n is next -/
def TapeN (K : PySem.W.Frag) (t : Addr) (H : Hp) (c : Addr) (xs : List Int) (n : Nat) : Prop := ∃ v d m s, H t = some (.dK (tkv c n v d m s)) ∧ SqL K H c (xs.map V.int) ∧ n ≤ xs.length
/-- a tape: where it stands, where its numbers stand, these -/
structure Tp where
  t : Addr
  c : Addr
  xs : List Int
def Tape (K : PySem.W.Frag) (T : Tp) (H : Hp) : Prop := ∃ n, TapeN K T.t H T.c T.xs n
/-- draws: the tape alone changes -/
def Dr (K : PySem.W.Frag) (T : Tp) (H H' : Hp) : Prop := Only T.t H H' ∧ Keep H H' ∧ Tape K T H'
theorem Tape.there {K : PySem.W.Frag} {T : Tp} {H : Hp} (h : Tape K T H) : ∃ kvs, H T.t = some (.dK kvs) := let ⟨_, _, _, _, _, h, _⟩ := h; ⟨_, h⟩
theorem Tape.same {K : PySem.W.Frag} {T : Tp} {H H' : Hp} (h : Tape K T H) (e : Same H H') : Tape K T H' := let ⟨n, v, d, m, s, h1, h2, h3⟩ := h; ⟨n, v, d, m, s, e _ _ h1, sqL_keep (.of e) h2, h3⟩
theorem Dr.refl {K : PySem.W.Frag} {T : Tp} {H : Hp} (h : Tape K T H) : Dr K T H H := ⟨Only.refl _ _, Keep.refl _, h⟩
theorem Dr.trans {K : PySem.W.Frag} {T : Tp} {H H1 H2 : Hp} (x : Dr K T H H1) (y : Dr K T H1 H2) : Dr K T H H2 := ⟨x.1.trans y.1, x.2.1.trans y.2.1, y.2.2⟩
theorem Dr.of {K : PySem.W.Frag} {T : Tp} {H H' : Hp} (h : Tape K T H) (e : Same H H') : Dr K T H H' := ⟨.of e, .of e, h.same e⟩
theorem Dr.mk' {K : PySem.W.Frag} {T : Tp} {H H' : Hp} (h : Tape K T H) (o : Only T.t H H') (h' : Tape K T H') : Dr K T H H' := ⟨o, let ⟨_, e⟩ := h.there; o.keep e True.intro, h'⟩
theorem Dr.same {K : PySem.W.Frag} {T : Tp} {H H1 H2 : Hp} (x : Dr K T H H1) (e : Same H1 H2) : Dr K T H H2 := x.trans (.of x.2.2 e)
/-- an object that H does not know may change -/
theorem Dr.mut {K : PySem.W.Frag} {T : Tp} {H H' : Hp} {l : Addr} {o : HO} (x : Dr K T H H') (h : Tape K T H) (hl : H l = none) : Dr K T H (upd H' l o) := by
  obtain ⟨x1, x2, n, v, d, m, s, h1, h2, h3⟩ := x
  obtain ⟨kvs, hk⟩ := h.there
  have nt : T.t ≠ l := ne_of_none hk hl
  refine ⟨fun b u hb hn => ?_, x2.mut hl, n, v, d, m, s, (upd_ne nt).trans h1, ?_, h3⟩
  · rw [upd_ne (ne_of_none hb hl)]
    exact x1 b u hb hn
  · obtain ⟨_, _, _, _, _, _, g2, _⟩ := h
    rcases g2 with (g2 | ⟨o', g2⟩) | g2
    · rcases h2 with (h2 | ⟨o'', h2⟩) | h2
      · exact .inl (.inl ((upd_ne (ne_of_none g2 hl)).trans h2))
      · exact .inl (.inr ⟨o'', (upd_ne (ne_of_none g2 hl)).trans h2⟩)
      · exact .inr h2
    · rcases h2 with (h2 | ⟨o'', h2⟩) | h2
      · exact .inl (.inl ((upd_ne (ne_of_none g2 hl)).trans h2))
      · exact .inl (.inr ⟨o'', (upd_ne (ne_of_none g2 hl)).trans h2⟩)
      · exact .inr h2
    · exact .inr g2
/-- a test that leaves all as it is -/
def EvT (tt : TT) (σ : L2.St) (H : Hp) (b : Bool) : Prop := ∀ Q : Bool → Hp → Prop, Q b H → tt σ H Q
theorem evt_and {t u : TT} {σ : L2.St} {H : Hp} {a b : Bool} (h1 : EvT t σ H a) (h2 : a = true → EvT u σ H b) : EvT (tAnd t u) σ H (a && b) := fun Q q => h1 _ (by
  cases a with
  | true => exact h2 rfl _ q
  | false => exact q)
theorem evt_or {t u : TT} {σ : L2.St} {H : Hp} {a b : Bool} (h1 : EvT t σ H a) (h2 : a = false → EvT u σ H b) : EvT (tOr t u) σ H (a || b) := fun Q q => h1 _ (by
  cases a with
  | true => exact q
  | false => exact h2 rfl _ q)
theorem if_step {c : TT} {a b rest : TS} {D : Ends} {σ : L2.St} {H : Hp} {k : Bool} (h : EvT c σ H k) (h1 : k = true → a { D with nx := rest D } σ H) (h2 : k = false → b { D with nx := rest D } σ H) : tSeq (tIfS c a b) rest D σ H := h _ (by
  cases k with
  | true => exact h1 rfl
  | false => exact h2 rfl)
theorem if_stepN {c : TT} {a rest : TS} {D : Ends} {σ : L2.St} {H : Hp} {k : Bool} (h : EvT c σ H k) (h1 : k = true → a { D with nx := rest D } σ H) (h2 : k = false → rest D σ H) : tSeq (tIfS c a tNext) rest D σ H := if_step h h1 h2
theorem for_rangeB {lo : Int} {n : Nat} {g : TG} {tb : TS} {D : Ends} {σ : L2.St} {H : Hp} (Pv : L2.St → Hp → Prop) (h0 : Pv σ H) (hs : (∀ σ H, Pv σ H → D.nx σ H) → ∀ i σ H, i < n → Pv σ H → g (.int (lo + i)) σ H fun σ2 H2 => tb { D with nx := Pv, ct := Pv, bk := D.nx } σ2 H2) (hd : ∀ σ H, Pv σ H → D.nx σ H) : ForB (Itr lo n) g tb D σ H :=
  for_range (fun _ => Pv) h0 (hs hd) hd
section
variable {P : Program} {w : World} {K : PySem.W.Frag} {mg : Str → Option Value} {base : Heap} {f f1 f2 f3 : Addr} {fd fd1 fd2 fd3 : FuncData}
def spTape (K : PySem.W.Frag) : Sp := fun vs H Q _ => ∃ (a : Addr) (ns : List Int), vs = [.ref a] ∧ SqL K H a (ns.map V.int) ∧ ∀ T H', Same H H' → H T.t = none → Tape K T H' → Q (.ref T.t) H'
abbrev nTape : List Str := ["_law_script", "_law_salt", "_law_number"]
theorem scTape : FnScope nTape ["_law_script"] (defScope (top 25)) := ⟨rfl, rfl, rfl, by decide +kernel, rfl, by decide +kernel, by decide +kernel⟩
theorem ok_tape (F : FnP K "_law_tape" 25 f fd) (gL : mg "len" = none) (gI : mg "int" = none) (gA : mg "abs" = none) (gLi : mg "list" = none) : FnOk P w K mg base CX0 1 f fd ["_law_script"] (spTape K) := by
  have nd := scTape.nd
  refine F.ok scTape (fun vs H Q E h => ?_) (fun cdv A outer s H vs Q E hr h => ⟨_, PSs.nox (pss_cons (ps_set (i := 1) nd rfl (.inl rfl) (pe_op op_add pe_int (pe_callB call_len_seq (by rfl) gL boot_len (pa_cons (pv 0) pa_nil))))
    (pss_cons (ps_for PassesOwn.never rfl (pi_seq (pv 0)) (pg_name (i := 2) nd rfl (.inl rfl)) (pss_one (ps_set (i := 1) nd rfl (.inl rfl) (pe_op op_mod (pe_callTy call_int1 (by rfl) gI PyProof.Rows.boot_int (pa_cons (pe_op op_add (pe_op op_add (pe_op op_mul (pv 1) pe_int) (pe_callB call_abs (by rfl) gA boot_abs (pa_cons (pv 2) pa_nil))) pe_int) pa_nil)) pe_int))))
    (pss_one (ps_ret (pe_disp (pps_cons pe_str (pe_callTy call_list_of (by rfl) gLi PyProof.Rows.boot_list (pa_cons (pv 0) pa_nil)) (pps_cons pe_str pe_int (pps_cons pe_str pe_int (pps_cons pe_str pe_int (pps_cons pe_str pe_int (pps_cons pe_str (pv 1) pps_nil)))))) (by rfl) (by rfl) (fun z => by cases z) (by decide)))))), ?_⟩)
  · obtain ⟨a, ns, rfl, _⟩ := h; rfl
  · obtain ⟨a, ns, rfl, hs, hq⟩ := h
    refine ⟨_, rfl, a, _, rfl, .inl hs, _, _, rfl, rfl, ?_⟩
    refine ⟨_, rfl, a, rfl, for_seq (.inl hs) (Keep.refl _) (fun i σ H' => ∃ s x, σ = [some (.ref a), some (.int s), x] ∧ H' = H) ?_ ?_ ?_ ?_⟩
    · exact fun _ => ⟨_, _, rfl, rfl⟩
    · rintro i σ H' ⟨s, x, _, rfl⟩
      exact Keep.refl _
    · rintro i x σ H' hz hi hx ⟨s, y, rfl, rfl⟩
      rw [List.getElem?_map] at hx
      obtain ⟨n, hn, rfl⟩ := Option.map_eq_some_iff.mp hx
      refine ⟨_, rfl, _, _, rfl, rfl, .inr ⟨by decide, by decide⟩, _, rfl, _, rfl, _, _, rfl, rfl, _, _, rfl, rfl, .inl ⟨_, rfl, _, _, rfl, rfl, (by show (0 : Int) < 2147483647; decide), _, _, rfl, rfl⟩⟩
    · rintro σ H' ⟨s, x, rfl, rfl⟩
      refine fun t ht => ⟨_, rfl, a, _, rfl, .inl (sqL_keep (keep_new ht) hs), fun l hl => ?_⟩
      have n1 : t ≠ l := fun z => by rw [← z, upd_same] at hl; cases hl
      refine ⟨_, rfl, (upd_ne n1).trans upd_same, tkv l 0 0 0 0 s, rfl, (by show 6 ≤ 15; decide), hq ⟨t, l, ns⟩ _ (((same_new ht).trans (same_new hl)).mut ht) ht ⟨0, 0, 0, 0, s, ?_, SqX.of_l ((upd_ne (Ne.symm n1)).trans upd_same), Nat.zero_le _⟩⟩
      rw [upd_same, tk_made]
      rfl
def spLoad (K : PySem.W.Frag) : Sp := fun vs H Q _ => ∃ T n, vs = [.ref T.t] ∧ TapeN K T.t H T.c T.xs n ∧ n < T.xs.length ∧ ∀ H', Dr K T H H' → Q .non H'
abbrev nLoad : List Str := ["_law_tape_here", "_law_number"]
theorem scLoad : FnScope nLoad ["_law_tape_here"] (defScope (top 26)) := ⟨rfl, rfl, rfl, by decide +kernel, rfl, by decide +kernel, by decide +kernel⟩
theorem ok_load (F : FnP K "_law_load" 26 f fd) (gI : mg "int" = none) (gA : mg "abs" = none) : FnOk P w K mg base CX0 1 f fd ["_law_tape_here"] (spLoad K) := by
  have nd := scLoad.nd
  refine F.ok scLoad (fun vs H Q E h => ?_) (fun cdv A outer s H vs Q E hr h => ⟨_, PSs.nox (pss_cons (ps_set (i := 1) nd rfl (.inl rfl) (pe_ix ix_list (pe_dget (hu_of hr) (pv 0) pe_str (fun _ _ => rfl)) (pe_dget (hu_of hr) (pv 0) pe_str (fun _ _ => rfl)) (fun _ _ => rfl)))
    (pss_cons (ps_dput (hu_of hr) (pv 0) pe_str (pe_op op_add (pe_dget (hu_of hr) (pv 0) pe_str (fun _ _ => rfl)) pe_int) rfl)
    (pss_one (ps_if (pt_cmpR op_eq (pe_op op_mod (pe_callTy call_int1 (by rfl) gI PyProof.Rows.boot_int (pa_cons (pv 1) pa_nil)) pe_int) pe_int (nomark _))
      (pss_cons (ps_dput (hu_of hr) (pv 0) pe_str (pe_op op_fdiv (pe_callB call_abs (by rfl) gA boot_abs (pa_cons (pv 1) pa_nil)) pe_int) rfl)
      (pss_one (ps_dput (hu_of hr) (pv 0) pe_str pe_int rfl)))
      (pss_cons (ps_dput (hu_of hr) (pv 0) pe_str (pe_op op_mod (pe_callTy call_int1 (by rfl) gI PyProof.Rows.boot_int (pa_cons (pe_op op_add (pe_op op_add (pe_op op_mul (pe_dget (hu_of hr) (pv 0) pe_str (fun _ _ => rfl)) pe_int) (pe_op op_fdiv (pe_callB call_abs (by rfl) gA boot_abs (pa_cons (pv 1) pa_nil)) pe_int)) pe_int) pa_nil)) pe_int) rfl)
      (pss_one (ps_dput (hu_of hr) (pv 0) pe_str pe_int rfl))))))), ?_⟩)
  · obtain ⟨T, n, rfl, _⟩ := h; rfl
  · obtain ⟨⟨t, c, xs⟩, n, rfl, ⟨v, d, m, s, ht, hs, hn⟩, hlt, hq⟩ := h
    dsimp only at ht hs hn hlt hq ⊢
    have hx : (xs.map V.int)[n]? = some (.int xs[n]) := by rw [List.getElem?_map, List.getElem?_eq_getElem hlt]; rfl
    have tap : Tape K ⟨t, c, xs⟩ H := ⟨n, v, d, m, s, ht, hs, hn⟩
    have nc : ∀ {o : HO}, Keep H (upd H t o) := fun {o} => keep_soft ht True.intro
    have two : ∀ {o o' : HO}, upd (upd H t o) t o' = upd H t o' := fun {o o'} => by
      funext b
      by_cases z : b = t
      · rw [z, upd_same, upd_same]
      · rw [upd_ne z, upd_ne z, upd_ne z]
    refine ⟨_, rfl, t, _, rfl, .inl ⟨_, kx "cells", .inl ht, rfl, (tk_cells ..).symm⟩, _, rfl, t, _, rfl, .inl ⟨_, kx "at", .inl ht, rfl, (tk_at ..).symm⟩, ?_⟩
    refine ⟨c, _, _, _, rfl, rfl, hs, atI_nat hx, ?_⟩
    refine ⟨_, rfl, t, _, rfl, .inl ⟨_, kx "at", .inl ht, rfl, (tk_at ..).symm⟩, _, _, rfl, rfl, ?_⟩
    refine ⟨_, rfl, t, _, rfl, .inl ⟨_, kx "at", ht, rfl, (by show 6 < sizeLine; decide), rfl⟩, ?_⟩
    rw [tp_at]
    have fin : ∀ v d m s, Dr K ⟨t, c, xs⟩ H (upd H t (.dK (tkv c ((n : Int) + 1) v d m s))) := fun v d m s => Dr.mk' tap (Only.refl _ _).put ⟨n + 1, v, d, m, s, upd_same, sqL_keep nc hs, hlt⟩
    by_cases hp : xs[n] % 2 = 0
    · refine ⟨_, rfl, .inl ⟨_, rfl, _, _, rfl, rfl, (by show (0 : Int) < 2; decide), rfl, true, (by show V.bl (decide (V.int (xs[n] % 2) = V.int 0)) = _; rw [hp]; rfl), ?_⟩⟩
      refine ⟨_, rfl, _, rfl, _, _, rfl, rfl, ⟨by decide, by decide⟩, _, rfl, t, _, rfl, .inl ⟨_, kx "value", upd_same, rfl, (by show 6 < sizeLine; decide), rfl⟩, ?_⟩
      rw [tp_value, two]
      refine ⟨_, rfl, t, _, rfl, .inl ⟨_, kx "digits", upd_same, rfl, (by show 6 < sizeLine; decide), rfl⟩, ?_⟩
      rw [tp_digits, two]
      exact hq _ (fin _ _ _ _)
    · refine ⟨_, rfl, .inl ⟨_, rfl, _, _, rfl, rfl, (by show (0 : Int) < 2; decide), rfl, false, (by show V.bl (decide (V.int (xs[n] % 2) = V.int 0)) = _; simp [hp]), ?_⟩⟩
      refine ⟨_, rfl, t, _, rfl, .inl ⟨_, kx "salt", .inl upd_same, rfl, (tk_salt ..).symm⟩, _, _, rfl, rfl, .inr ⟨by decide, by decide⟩, ?_⟩
      refine ⟨_, rfl, _, rfl, _, _, rfl, rfl, ⟨by decide, by decide⟩, _, _, rfl, rfl, _, _, rfl, rfl, .inl ⟨_, rfl, _, _, rfl, rfl, (by show (0 : Int) < 2147483647; decide), ?_⟩⟩
      refine ⟨_, rfl, t, _, rfl, .inl ⟨_, kx "salt", upd_same, rfl, (by show 6 < sizeLine; decide), rfl⟩, ?_⟩
      rw [tp_salt, two]
      refine ⟨_, rfl, t, _, rfl, .inl ⟨_, kx "mixed", upd_same, rfl, (by show 6 < sizeLine; decide), rfl⟩, ?_⟩
      rw [tp_mixed, two]
      exact hq _ (fin _ _ _ _)
def spDraw (K : PySem.W.Frag) : Sp := fun vs H Q _ => ∃ T n, vs = [.ref T.t, .int n] ∧ Tape K T H ∧ 1 ≤ n ∧ n < 2 ^ 200 ∧ ∀ d H', Dr K T H H' → 0 ≤ d → d < n → Q (.int d) H'
abbrev nDraw : List Str := ["_law_tape_here", "_law_many", "_law_turn", "_law_digit"]
theorem scDraw : FnScope nDraw ["_law_tape_here", "_law_many"] (defScope (top 27)) := ⟨rfl, rfl, rfl, by decide +kernel, rfl, by decide +kernel, by decide +kernel⟩
theorem ok_draw (F : FnP K "_law_draw" 27 f fd) (G : FnOk P w K mg base CX0 1 f1 fd1 ["_law_tape_here"] (spLoad K)) (b1 : Binds K fd1 ["_law_tape_here"] []) (k1 : PySem.W.keepIn K (.ref f1) = true) (g1 : mg "_law_load" = some (.ref f1)) (gI : mg "int" = none) (gL : mg "len" = none) (gR : mg "range" = none) :
    FnOk P w K mg base CX0 2 f fd ["_law_tape_here", "_law_many"] (spDraw K) := by
  have nd := scDraw.nd
  refine F.ok scDraw (fun vs H Q E h => ?_) (fun cdv A outer s H vs Q E hr h => ⟨_, PSs.nox (pss_cons (ps_if (pt_cmpR op_lt (pv 1) pe_int (nomark _)) (pss_one (ps_ret pe_int)) pss_nil)
    (pss_cons (ps_for PassesOwn.never rfl (pi_range1 (by rfl) gR (pa_cons pe_int pa_nil)) (pg_name (i := 2) nd rfl (.inl rfl))
      (pss_cons (ps_if (PW.pt (pw_and (pt_cmpR op_gt (pe_dget (hu_of hr) (pv 0) pe_str (fun _ _ => rfl)) pe_int (nomark _)) (pw_and1 (pt_cmpR op_gt (pe_dget (hu_of hr) (pv 0) pe_str (fun _ _ => rfl)) pe_int (nomark _)))))
        (pss_cons (ps_set (i := 3) nd rfl (.inl rfl) (pe_op op_mod (pe_callTy call_int1 (by rfl) gI PyProof.Rows.boot_int (pa_cons (pe_dget (hu_of hr) (pv 0) pe_str (fun _ _ => rfl)) pa_nil)) (pv 1)))
        (pss_cons (ps_dput (hu_of hr) (pv 0) pe_str (pe_op op_sub (pe_dget (hu_of hr) (pv 0) pe_str (fun _ _ => rfl)) pe_int) rfl)
        (pss_cons (ps_dput (hu_of hr) (pv 0) pe_str (pe_op op_fdivW (pe_dget (hu_of hr) (pv 0) pe_str (fun _ _ => rfl)) (pv 1)) rfl)
        (pss_one (ps_ret (pv 3)))))) pss_nil)
      (pss_cons (ps_if (PW.pt (pw_or (pt_cmpR op_gt (pe_dget (hu_of hr) (pv 0) pe_str (fun _ _ => rfl)) pe_int (nomark _)) (pw_or1 (pt_cmpR op_ge (pe_dget (hu_of hr) (pv 0) pe_str (fun _ _ => rfl)) (pe_callB call_len_seq (by rfl) gL boot_len (pa_cons (pe_dget (hu_of hr) (pv 0) pe_str (fun _ _ => rfl)) pa_nil)) (nomark _)))))
        (pss_one ps_break) pss_nil)
      (pss_one (ps_expr (pe_call G hr (by rfl) g1 k1 b1 .nil pass0 (pa_cons (pv 0) pa_nil)))))))
    (pss_cons (ps_if (pt_cmpR op_gt (pe_dget (hu_of hr) (pv 0) pe_str (fun _ _ => rfl)) pe_int (nomark _))
      (pss_one (ps_dput (hu_of hr) (pv 0) pe_str (pe_op op_sub (pe_dget (hu_of hr) (pv 0) pe_str (fun _ _ => rfl)) pe_int) rfl)) pss_nil)
    (pss_cons (ps_dput (hu_of hr) (pv 0) pe_str (pe_op op_mod (pe_callTy call_int1 (by rfl) gI PyProof.Rows.boot_int (pa_cons (pe_op op_add (pe_op op_mul (pe_dget (hu_of hr) (pv 0) pe_str (fun _ _ => rfl)) pe_int) pe_int) pa_nil)) pe_int) rfl)
    (pss_one (ps_ret (pe_op op_mod (pe_op op_mod (pe_callTy call_int1 (by rfl) gI PyProof.Rows.boot_int (pa_cons (pe_op op_add (pe_op op_mul (pe_op op_fdiv (pe_dget (hu_of hr) (pv 0) pe_str (fun _ _ => rfl)) pe_int) pe_int) pe_int) pa_nil)) pe_int) (pv 1)))))))), ?_⟩)
  · obtain ⟨T, n, rfl, _⟩ := h; rfl
  · obtain ⟨⟨t, c, xs⟩, n, rfl, ht, hn1, hn2, hq⟩ := h
    dsimp only at ht hq ⊢
    have two : ∀ {H : Hp} {o o' : HO}, upd (upd H t o) t o' = upd H t o' := fun {H o o'} => by
      funext b
      by_cases z : b = t
      · rw [z, upd_same, upd_same]
      · rw [upd_ne z, upd_ne z, upd_ne z]
    have chg : ∀ {H1 : Hp} {k : Nat} {v d m s : Int} (v' d' m' s' : Int), Dr K ⟨t, c, xs⟩ H H1 → H1 t = some (.dK (tkv c k v d m s)) → SqL K H1 c (xs.map V.int) → k ≤ xs.length → Dr K ⟨t, c, xs⟩ H (upd H1 t (.dK (tkv c k v' d' m' s'))) := fun {H1 k v d m s} v' d' m' s' e h1 h2 h3 =>
      e.trans (Dr.mk' e.2.2 (Only.refl _ _).put ⟨k, v', d', m', s', upd_same, sqL_keep (keep_soft h1 True.intro) h2, h3⟩)
    refine ⟨_, rfl, _, _, rfl, rfl, _, rfl, ?_⟩
    by_cases h2 : n < 2
    · rw [decide_eq_true h2]
      exact hq 0 H (Dr.refl ht) (Int.le_refl _) (by omega)
    · rw [decide_eq_false h2]
      refine ⟨64, rfl, by decide, by decide, for_rangeB (lo := 0) (n := 64) (fun σ H' => ∃ x y, σ = [some (.ref t), some (.int n), x, y] ∧ Dr K ⟨t, c, xs⟩ H H') ⟨none, none, rfl, Dr.refl ht⟩ ?_ ?_⟩
      · rintro hnx i σ H1 hi ⟨x, y, rfl, e⟩
        obtain ⟨k, v, d, m, s, h1, h2, h3⟩ := id e.2.2
        dsimp only at h1 h2 h3
        refine if_stepN (evt_and (a := decide (0 < d)) (b := decide (1 < v)) (fun Q q => ⟨_, rfl, t, _, rfl, .inl ⟨_, kx "digits", .inl h1, rfl, (tk_digits ..).symm⟩, _, _, rfl, rfl, _, rfl, q⟩) fun _ Q q => ⟨_, rfl, t, _, rfl, .inl ⟨_, kx "value", .inl h1, rfl, (tk_value ..).symm⟩, _, _, rfl, rfl, _, rfl, q⟩) (fun _ => ?_) fun _ => ?_
        · refine ⟨_, rfl, t, _, rfl, .inl ⟨_, kx "value", .inl h1, rfl, (tk_value ..).symm⟩, .inl ⟨_, rfl, _, rfl, _, _, rfl, rfl, (by show 0 < n; omega), ?_⟩⟩
          refine ⟨_, rfl, t, _, rfl, .inl ⟨_, kx "digits", .inl h1, rfl, (tk_digits ..).symm⟩, _, _, rfl, rfl, _, rfl, t, _, rfl, .inl ⟨_, kx "digits", h1, rfl, (by show 6 < sizeLine; decide), rfl⟩, ?_⟩
          rw [tp_digits]
          refine ⟨_, rfl, t, _, rfl, .inl ⟨_, kx "value", .inl upd_same, rfl, (tk_value ..).symm⟩, _, rfl, _, _, rfl, rfl, wide_div (b := 200) (by omega) (by omega) (by decide) (by decide), _, rfl, t, _, rfl, .inl ⟨_, kx "value", upd_same, rfl, (by show 6 < sizeLine; decide), rfl⟩, ?_⟩
          rw [tp_value, two]
          exact ⟨_, rfl, hq _ _ (chg _ _ _ _ e h1 h2 h3) (Int.emod_nonneg _ (by omega)) (Int.emod_lt_of_pos _ (by omega))⟩
        · refine if_stepN (evt_or (a := decide (0 < m)) (b := decide ((((xs.map V.int).length : Nat) : Int) ≤ (k : Int))) (fun Q q => ⟨_, rfl, t, _, rfl, .inl ⟨_, kx "mixed", .inl h1, rfl, (tk_mixed ..).symm⟩, _, _, rfl, rfl, _, rfl, q⟩) fun _ Q q => ⟨_, rfl, t, _, rfl, .inl ⟨_, kx "at", .inl h1, rfl, (tk_at ..).symm⟩, _, rfl, t, _, rfl, .inl ⟨_, kx "cells", .inl h1, rfl, (tk_cells ..).symm⟩, c, _, rfl, .inl h2, _, _, rfl, rfl, _, rfl, q⟩) (fun _ => ?_) fun hk => ?_
          · exact hnx _ _ ⟨_, _, rfl, e⟩
          · have hlt : k < xs.length := by
              rw [Bool.or_eq_false_iff] at hk
              have := of_decide_eq_false hk.2
              rw [List.length_map] at this
              omega
            exact ⟨_, rfl, ⟨t, c, xs⟩, k, rfl, ⟨v, d, m, s, h1, h2, h3⟩, hlt, fun H2 e2 => ⟨_, _, rfl, e.trans e2⟩⟩
      · rintro σ H1 ⟨x, y, rfl, e⟩
        obtain ⟨k, v, d, m, s, h1, h2, h3⟩ := id e.2.2
        dsimp only at h1 h2 h3
        dsimp only
        refine if_stepN (k := decide (0 < m)) (fun Q q => ⟨_, rfl, t, _, rfl, .inl ⟨_, kx "mixed", .inl h1, rfl, (tk_mixed ..).symm⟩, _, _, rfl, rfl, _, rfl, q⟩) (fun _ => ?_) fun _ => ?_
        · refine ⟨_, rfl, t, _, rfl, .inl ⟨_, kx "mixed", .inl h1, rfl, (tk_mixed ..).symm⟩, _, _, rfl, rfl, _, rfl, t, _, rfl, .inl ⟨_, kx "mixed", h1, rfl, (by show 6 < sizeLine; decide), rfl⟩, ?_⟩
          rw [tp_mixed]
          refine ⟨_, rfl, t, _, rfl, .inl ⟨_, kx "salt", .inl upd_same, rfl, (tk_salt ..).symm⟩, _, _, rfl, rfl, .inr ⟨by decide, by decide⟩, _, _, rfl, rfl, .inl ⟨_, rfl, _, _, rfl, rfl, (by show (0 : Int) < 2147483647; decide), _, rfl, t, _, rfl, .inl ⟨_, kx "salt", upd_same, rfl, (by show 6 < sizeLine; decide), rfl⟩, ?_⟩⟩
          rw [tp_salt, two]
          refine ⟨_, rfl, t, _, rfl, .inl ⟨_, kx "salt", .inl upd_same, rfl, (tk_salt ..).symm⟩, _, _, rfl, rfl, ⟨by decide, by decide⟩, _, _, rfl, rfl, .inr ⟨by decide, by decide⟩, _, _, rfl, rfl, .inl ⟨_, rfl, _, _, rfl, rfl, (by show (0 : Int) < 1000003; decide), _, rfl, _, _, rfl, rfl, (by show 0 < n; omega), hq _ _ (chg _ _ _ _ e h1 h2 h3) (Int.emod_nonneg _ (by omega)) (Int.emod_lt_of_pos _ (by omega))⟩⟩
        · refine ⟨_, rfl, t, _, rfl, .inl ⟨_, kx "salt", .inl h1, rfl, (tk_salt ..).symm⟩, _, _, rfl, rfl, .inr ⟨by decide, by decide⟩, _, _, rfl, rfl, .inl ⟨_, rfl, _, _, rfl, rfl, (by show (0 : Int) < 2147483647; decide), _, rfl, t, _, rfl, .inl ⟨_, kx "salt", h1, rfl, (by show 6 < sizeLine; decide), rfl⟩, ?_⟩⟩
          rw [tp_salt]
          refine ⟨_, rfl, t, _, rfl, .inl ⟨_, kx "salt", .inl upd_same, rfl, (tk_salt ..).symm⟩, _, _, rfl, rfl, ⟨by decide, by decide⟩, _, _, rfl, rfl, .inr ⟨by decide, by decide⟩, _, _, rfl, rfl, .inl ⟨_, rfl, _, _, rfl, rfl, (by show (0 : Int) < 1000003; decide), _, rfl, _, _, rfl, rfl, (by show 0 < n; omega), hq _ _ (chg _ _ _ _ e h1 h2 h3) (Int.emod_nonneg _ (by omega)) (Int.emod_lt_of_pos _ (by omega))⟩⟩
end
end K03
set_option Elab.async false
set_option linter.all false
set_option maxRecDepth 100000
set_option maxHeartbeats 4000000
/-! signs, factor -/
namespace K03
open PySem PySem.Spec PyProof.Rows L2
theorem none_dr {K : PySem.W.Frag} {T : Tp} {H H1 : Hp} {e : Addr} (h : Tape K T H) (d : Dr K T H H1) (he : H1 e = none) : H e = none := by
  cases z : H e with
  | none => rfl
  | some o =>
    by_cases q : e = T.t
    · obtain ⟨_, k⟩ := d.2.2.there
      rw [q, k] at he
      cases he
    · rw [d.1 _ _ z q] at he
      cases he
theorem atI_some {α : Type} {xs : List α} {d : Int} (h0 : 0 ≤ d) (h1 : d < xs.length) : ∃ v, atI xs d = some v ∧ xs[d.toNat]? = some v := by
  have h2 : d.toNat < xs.length := by omega
  refine ⟨xs[d.toNat], ?_, List.getElem?_eq_getElem h2⟩
  have := atI_nat (List.getElem?_eq_getElem h2)
  rwa [Int.toNat_of_nonneg h0] at this
theorem all_flat : ∀ S : List Str, (S.map V.str).all flatV = true
  | [] => rfl
  | s :: S => by rw [List.map_cons, List.all_cons, all_flat S]; rfl
section
variable {P : Program} {w : World} {K : PySem.W.Frag} {mg : Str → Option Value} {base : Heap} {f f1 f2 f3 : Addr} {fd fd1 fd2 fd3 : FuncData}
def spSigns (K : PySem.W.Frag) : Sp := fun vs H Q _ => ∃ T, vs = [.ref T.t] ∧ Tape K T H ∧ ∀ (l : Addr) (S : List Str) (H' : Hp), Dr K T H H' → H l = none → H' l = some (.lst (S.map V.str)) → S ≠ [] → S.length ≤ 6 → Q (.ref l) H'
abbrev nSigns : List Str := ["_law_tape_here", "_law_found", "_law_k", "_law_name", "_law_turn", "_law_sign"]
theorem scSigns : FnScope nSigns ["_law_tape_here"] (defScope (top 29)) := ⟨rfl, rfl, rfl, by decide +kernel, rfl, by decide +kernel, by decide +kernel⟩
theorem ok_signs (F : FnP K "_law_signs" 29 f fd) (G : FnOk P w K mg base CX0 2 f1 fd1 ["_law_tape_here", "_law_many"] (spDraw K)) (b1 : Binds K fd1 ["_law_tape_here", "_law_many"] []) (k1 : PySem.W.keepIn K (.ref f1) = true) (g1 : mg "_law_draw" = some (.ref f1)) (gR : mg "range" = none) :
    FnOk P w K mg base CX0 3 f fd ["_law_tape_here"] (spSigns K) := by
  have nd := scSigns.nd
  refine F.ok scSigns (fun vs H Q E h => ?_) (fun cdv A outer s H vs Q E hr h => ⟨_, PSs.nox (pss_cons (ps_set (i := 1) nd rfl (.inl rfl) (pe_lst pa_nil))
    (pss_cons (ps_for PassesOwn.never rfl (pi_range1 (by rfl) gR (pa_cons (pe_op op_add pe_int (pe_call G hr (by rfl) g1 k1 b1 .nil pass0 (pa_cons (pv 0) (pa_cons pe_int pa_nil)))) pa_nil)) (pg_name (i := 2) nd rfl (.inl rfl))
      (pss_cons (ps_set (i := 3) nd rfl (.inl rfl) pe_str)
      (pss_cons (ps_for PassesOwn.never rfl (pi_range1 (by rfl) gR (pa_cons (pe_op op_add pe_int (pe_call G hr (by rfl) g1 k1 b1 .nil pass0 (pa_cons (pv 0) (pa_cons (pe_ix ix_list (pe_lst (pa_cons pe_int (pa_cons pe_int (pa_cons pe_int (pa_cons pe_int pa_nil))))) (pe_call G hr (by rfl) g1 k1 b1 .nil pass0 (pa_cons (pv 0) (pa_cons pe_int pa_nil))) (fun _ _ => rfl)) pa_nil)))) pa_nil)) (pg_name (i := 4) nd rfl (.inl rfl))
        (pss_one (ps_set (i := 3) nd rfl (.inl rfl) (pe_op op_add_str (pv 3) (pe_ix ix_str pe_str (pe_call G hr (by rfl) g1 k1 b1 .nil pass0 (pa_cons (pv 0) (pa_cons pe_int pa_nil))) (fun _ _ => rfl))))))
      (pss_cons (ps_set (i := 5) nd rfl (.inl rfl) (pe_op op_add_str (pe_op op_add_str (pe_ix ix_str pe_str (pe_call G hr (by rfl) g1 k1 b1 .nil pass0 (pa_cons (pv 0) (pa_cons pe_int pa_nil))) (fun _ _ => rfl)) pe_str) (pv 3)))
      (pss_one (ps_if (pt_cmpR op_notIn_seq (pv 5) (pv 1) (by rfl)) (pss_one (ps_expr (pe_bm PySem.F.plainAttrs_list PySem.F.slot_list_append PySem.F.type_list_append mt_append (pv 1) (pa_cons (pv 5) pa_nil)))) pss_nil))))))
    (pss_one (ps_ret (pv 1))))), ?_⟩)
  · obtain ⟨T, rfl, _⟩ := h; rfl
  · obtain ⟨T, rfl, ht, hq⟩ := h
    refine ⟨Nat.zero_le _, fun l hl => ?_⟩
    refine ⟨_, rfl, T, 5, rfl, ht.same (same_new hl), by decide, by decide, fun d H1 e1 d0 d1 => ⟨_, _, rfl, rfl, _, rfl, (by omega), (by omega), ?_⟩⟩
    have e1' : Dr K T H H1 := (Dr.of ht (same_new hl)).trans e1
    have l1 : H1 l = some (.lst []) := e1.2.1 _ _ upd_same fun z => z
    refine for_range (lo := 0) (n := (2 + d).toNat) (fun i σ H' => ∃ x2 x3 x4 x5 S, σ = [some (.ref T.t), some (.ref l), x2, x3, x4, x5] ∧ Dr K T H H' ∧ H' l = some (.lst (S.map V.str)) ∧ S.length ≤ i ∧ (1 ≤ i → S ≠ [])) ?_ ?_ ?_
    · exact ⟨none, none, none, none, [], rfl, e1', l1, Nat.le_refl _, fun h => by omega⟩
    · rintro i σ H2 hi ⟨x2, x3, x4, x5, S, rfl, e2, l2, hS, hne⟩
      have sz : 4 ≤ sizeLine := by decide
      refine ⟨_, rfl, (by show 4 ≤ sizeLine; decide), fun l3 hl3 => ?_⟩
      refine ⟨_, rfl, T, 4, rfl, e2.2.2.same (same_new hl3), by decide, by decide, fun d2 H3 e3 d20 d21 => ?_⟩
      have l3' := e3.2.1 _ _ (upd_same (H := H2) (a := l3)) fun z => z
      have e3' : Dr K T H H3 := (e2.same (same_new hl3)).trans e3
      have ll3 : H3 l = some (.lst (S.map V.str)) := e3.2.1 _ _ (same_new hl3 _ _ l2) fun z => z
      obtain ⟨n, hn, hn1, hn2⟩ : ∃ n, atI [V.int 1, .int 1, .int 2, .int 4] d2 = some (.int n) ∧ 1 ≤ n ∧ n ≤ 4 := by
        have : d2 = 0 ∨ d2 = 1 ∨ d2 = 2 ∨ d2 = 3 := by omega
        rcases this with rfl | rfl | rfl | rfl
        · exact ⟨1, rfl, by decide, by decide⟩
        · exact ⟨1, rfl, by decide, by decide⟩
        · exact ⟨2, rfl, by decide, by decide⟩
        · exact ⟨4, rfl, by decide, by decide⟩
      refine ⟨l3, _, d2, _, rfl, rfl, SqX.of_l l3', hn, ?_⟩
      refine ⟨T, n, rfl, e3'.2.2, hn1, by omega, fun d4 H4 e4 d40 d41 => ⟨_, _, rfl, rfl, _, rfl, (by omega), (by omega), ?_⟩⟩
      have sz2 : 100 ≤ sizeLine := by decide
      refine for_range (lo := 0) (n := (1 + d4).toNat) (fun j σ H' => ∃ x4 x5 nm, σ = [some (.ref T.t), some (.ref l), some (.int (0 + (i : Int))), some (.str nm), x4, x5] ∧ Dr K T H H' ∧ H' l = some (.lst (S.map V.str)) ∧ nm.length ≤ j) ?_ ?_ ?_
      · exact ⟨_, _, _, rfl, e3'.trans e4, e4.2.1 _ _ ll3 fun z => z, by decide⟩
      · rintro j σ H5 hj ⟨x4, x5, nm, rfl, e5, l5, hnm⟩
        refine ⟨_, rfl, _, rfl, T, 5, rfl, e5.2.2, by decide, by decide, fun d6 H6 e6 d60 d61 => ?_⟩
        obtain ⟨c, hc, _⟩ := atI_some (xs := ("abxyz" : Str).cps.toList) d60 (by show d6 < 5; omega)
        refine ⟨_, d6, c, rfl, rfl, (by show 5 ≤ sizeLine; decide), hc, _, _, rfl, rfl, ?_, _, _, _, rfl, e5.trans e6, e6.2.1 _ _ l5 fun z => z, ?_⟩
        · show nm.length + 1 ≤ sizeLine
          omega
        · rw [Str.length_append]
          show nm.length + 1 ≤ j + 1
          omega
      · rintro σ H5 ⟨x4, x5, nm, rfl, e5, l5, hnm⟩
        refine ⟨_, rfl, T, 8, rfl, e5.2.2, by decide, by decide, fun d6 H6 e6 d60 d61 => ?_⟩
        obtain ⟨c, hc, _⟩ := atI_some (xs := ("xytXYWaZ" : Str).cps.toList) d60 (by show d6 < 8; omega)
        have l6 := e6.2.1 _ _ l5 fun z => z
        refine ⟨_, d6, c, rfl, rfl, (by show 8 ≤ sizeLine; decide), hc, _, _, rfl, rfl, (by show 1 + 1 ≤ sizeLine; omega), _, rfl, _, _, rfl, rfl, ?_, ?_⟩
        · rw [Str.length_append]
          show 1 + 1 + nm.length ≤ sizeLine
          omega
        · refine ⟨_, rfl, _, rfl, l, _, rfl, .inl (SqX.of_l l6), rfl, all_flat S, _, rfl, ?_⟩
          dsimp only [if_true]
          cases hb : inV (V.str ((⟨#[c]⟩ : Str) ++ "_" ++ nm)) (S.map V.str) with
          | false =>
            refine ⟨_, rfl, .inl ⟨rfl, _, SqX.of_l l6⟩, _, rfl, l, _, _, rfl, rfl, l6, (by rw [List.length_map]; omega), ?_⟩
            refine ⟨_, _, _, _, S ++ [(⟨#[c]⟩ : Str) ++ "_" ++ nm], rfl, (e5.trans e6).mut ht hl, ?_, by rw [List.length_append]; show S.length + 1 ≤ i + 1; omega, fun _ => by simp⟩
            rw [upd_same, List.map_append]
            rfl
          | true =>
            refine ⟨_, _, _, _, S, rfl, e5.trans e6, l6, by omega, fun _ hz => ?_⟩
            rw [hz] at hb
            cases hb
    · rintro σ H2 ⟨x2, x3, x4, x5, S, rfl, e2, l2, hS, hne⟩
      exact ⟨_, rfl, hq l S H2 e2 hl l2 (hne (by omega)) (by omega)⟩
def spFactor (K : PySem.W.Frag) : Sp := fun vs H Q _ => ∃ T g, vs = [.ref T.t, .int g] ∧ Tape K T H ∧ 10 ^ 6 ≤ g ∧ g < 2 ^ 200 ∧ ∀ (c : Int) (H' : Hp), Dr K T H H' → c ≠ 0 → c.natAbs ≤ g.natAbs → Q (.int c) H'
abbrev nFactor : List Str := ["_law_tape_here", "_law_great", "_law_number"]
theorem scFactor : FnScope nFactor ["_law_tape_here", "_law_great"] (defScope (top 30)) := ⟨rfl, rfl, rfl, by decide +kernel, rfl, by decide +kernel, by decide +kernel⟩
theorem ok_factor (F : FnP K "_law_factor" 30 f fd) (G : FnOk P w K mg base CX0 2 f1 fd1 ["_law_tape_here", "_law_many"] (spDraw K)) (b1 : Binds K fd1 ["_law_tape_here", "_law_many"] []) (k1 : PySem.W.keepIn K (.ref f1) = true) (g1 : mg "_law_draw" = some (.ref f1)) :
    FnOk P w K mg base CX0 3 f fd ["_law_tape_here", "_law_great"] (spFactor K) := by
  have nd := scFactor.nd
  refine F.ok scFactor (fun vs H Q E h => ?_) (fun cdv A outer s H vs Q E hr h => ⟨_, PSs.nox (pss_cons (ps_set (i := 2) nd rfl (.inl rfl) (pe_op op_add pe_int (pe_call G hr (by rfl) g1 k1 b1 .nil pass0 (pa_cons (pv 0) (pa_cons (pe_ix ix_list (pe_lst (pa_cons pe_int (pa_cons pe_int (pa_cons (pe_op op_pow pe_int pe_int) (pa_cons (pv 1) pa_nil))))) (pe_call G hr (by rfl) g1 k1 b1 .nil pass0 (pa_cons (pv 0) (pa_cons pe_int pa_nil))) (fun _ _ => rfl)) pa_nil)))))
    (pss_one (ps_ret (pe_ix ix_list (pe_lst (pa_cons (pv 2) (pa_cons (pe_op op_sub pe_int (pv 2)) pa_nil))) (pe_call G hr (by rfl) g1 k1 b1 .nil pass0 (pa_cons (pv 0) (pa_cons pe_int pa_nil))) (fun _ _ => rfl))))), ?_⟩)
  · obtain ⟨T, g, rfl, _⟩ := h; rfl
  · obtain ⟨T, g, rfl, ht, hg, hg2, hq⟩ := h
    refine ⟨_, rfl, _, _, rfl, rfl, ⟨by decide, by decide, by decide⟩, _, rfl, (by show 4 ≤ sizeLine; decide), fun l hl => ?_⟩
    have t1 := ht.same (same_new (o := .lst [.int 3, .int 12, .int (10 ^ 6), .int g]) hl)
    refine ⟨_, rfl, T, 4, rfl, t1, by decide, by decide, fun d H1 e1 d0 d1 => ?_⟩
    have l1 := e1.2.1 _ _ (upd_same (H := H) (a := l)) fun z => z
    have e1' : Dr K T H H1 := (Dr.of ht (same_new hl)).trans e1
    obtain ⟨n, hn, hn1, hn2⟩ : ∃ n, atI [V.int 3, .int 12, .int (10 ^ 6), .int g] d = some (.int n) ∧ 1 ≤ n ∧ n ≤ g := by
      have : d = 0 ∨ d = 1 ∨ d = 2 ∨ d = 3 := by omega
      rcases this with rfl | rfl | rfl | rfl
      · exact ⟨3, rfl, by decide, by omega⟩
      · exact ⟨12, rfl, by decide, by omega⟩
      · exact ⟨10 ^ 6, rfl, by decide, hg⟩
      · exact ⟨g, rfl, by omega, by omega⟩
    refine ⟨l, _, d, _, rfl, rfl, SqX.of_l l1, hn, ?_⟩
    refine ⟨T, n, rfl, e1'.2.2, hn1, by omega, fun d2 H2 e2 d20 d21 => ⟨_, _, rfl, rfl, ?_⟩⟩
    refine ⟨_, rfl, _, rfl, _, _, rfl, rfl, (by show 2 ≤ sizeLine; decide), fun l3 hl3 => ?_⟩
    refine ⟨_, rfl, T, 2, rfl, e2.2.2.same (same_new hl3), by decide, by decide, fun d3 H3 e3 d30 d31 => ?_⟩
    have e3' : Dr K T H H3 := (e1'.trans (e2.same (same_new hl3))).trans e3
    have l3' := e3.2.1 _ _ (upd_same (H := H2) (a := l3)) fun z => z
    have : d3 = 0 ∨ d3 = 1 := by omega
    rcases this with rfl | rfl
    · exact ⟨l3, _, 0, _, rfl, rfl, SqX.of_l l3', rfl, hq _ _ e3' (by omega) (by omega)⟩
    · exact ⟨l3, _, 1, _, rfl, rfl, SqX.of_l l3', rfl, hq _ _ e3' (by omega) (by omega)⟩
end
end K03
set_option Elab.async false
set_option linter.all false
set_option maxRecDepth 100000
set_option maxHeartbeats 4000000
/-! table -/
namespace K03
open PySem PySem.Spec PyProof.Rows L2
theorem tdeg_map {n : Str} {v : Int} : ∀ {m : Mono}, (nms m).Nodup → n ∈ nms m → tdeg (m.map fun q => if q.1 = n then (q.1, v) else q) + (ex m n).toNat = tdeg m + v.toNat
  | [], _, h => by cases h
  | q :: m, hn, h => by
    obtain ⟨h1, h2⟩ := List.nodup_cons.mp hn
    rw [List.map_cons]
    by_cases e : q.1 = n
    · rw [if_pos e]
      have : (m.map fun q => if q.1 = n then (q.1, v) else q) = m := by
        conv => rhs; rw [← List.map_id m]
        refine List.map_congr_left fun r hr => ?_
        rw [if_neg fun z => h1 (List.mem_map.mpr ⟨r, hr, z.trans e.symm⟩)]
        rfl
      rw [this]
      show v.toNat + tdeg m + (if q.1 = n then q.2 else ex m n).toNat = q.2.toNat + tdeg m + v.toNat
      rw [if_pos e]
      omega
    · rw [if_neg e]
      have hm : n ∈ nms m := by
        rcases List.mem_cons.mp h with z | z
        · exact absurd z.symm e
        · exact z
      have ih := tdeg_map (v := v) h2 hm
      show q.2.toNat + tdeg _ + (if q.1 = n then q.2 else ex m n).toNat = q.2.toNat + tdeg m + v.toNat
      rw [if_neg e]
      omega
theorem tdeg_app (a b : Mono) : tdeg (a ++ b) = tdeg a + tdeg b := by
  induction a with
  | nil => show tdeg b = 0 + tdeg b; omega
  | cons q a ih => show q.2.toNat + tdeg (a ++ b) = q.2.toNat + tdeg a + tdeg b; omega
theorem ex_not {m : Mono} {n : Str} (h : n ∉ nms m) : ex m n = 0 := ex_none fun p hp z => h (List.mem_map.mpr ⟨p, hp, z⟩)
theorem tdeg_put {m : Mono} {n : Str} {v : Int} (hn : (nms m).Nodup) : tdeg (putQ m n v) + (ex m n).toNat = tdeg m + v.toNat := by
  unfold putQ
  by_cases h : n ∈ nms m
  · rw [if_pos (any_nms.mpr h)]
    exact tdeg_map hn h
  · rw [if_neg fun z => h (any_nms.mp z), tdeg_app, ex_not h]
    show tdeg m + (v.toNat + 0) + 0 = _
    omega
theorem tdeg_perm {a b : Mono} (h : a.Perm b) : tdeg a = tdeg b := by
  induction h with
  | nil => rfl
  | cons q _ ih => show q.2.toNat + _ = q.2.toNat + _; rw [ih]
  | swap p q l => show q.2.toNat + (p.2.toNat + tdeg l) = p.2.toNat + (q.2.toNat + tdeg l); omega
  | trans _ _ i1 i2 => rw [i1, i2]
theorem ex_nodup {m : Mono} {q : Str × Int} (hn : (nms m).Nodup) (h : q ∈ m) : ex m q.1 = q.2 := by
  rw [← getQ_ex, getQ_mem hn h]
  rfl
/-- the monomial of a dict of exponents -/
def ofDict (mm : Mono) : Mono := (sortN (nms mm)).map fun n => (n, ex mm n)
theorem ofDict_perm {mm : Mono} (hn : (nms mm).Nodup) : (ofDict mm).Perm mm := by
  have h1 : (ofDict mm).Perm ((nms mm).map fun n => (n, ex mm n)) := (List.mergeSort_perm (nms mm) (PySem.W.dataLe false PyData.str)).map _
  have h2 : ((nms mm).map fun n => (n, ex mm n)) = mm := by
    unfold nms
    rw [List.map_map]
    conv => rhs; rw [← List.map_id mm]
    refine List.map_congr_left fun q hq => ?_
    show (q.1, ex mm q.1) = q
    rw [ex_nodup hn hq]
  rwa [h2] at h1
theorem ofDict_canon {mm : Mono} (hn : (nms mm).Nodup) (hp : ∀ q ∈ mm, 1 ≤ q.2) : CanonM (ofDict mm) :=
  ⟨List.pairwise_map.mpr (sortN_rise hn), fun q hq => hp q ((ofDict_perm hn).mem_iff.mp hq)⟩
theorem nd_dr {K : PySem.W.Frag} {P : Program} {w : World} {T : Tp} {H H' : Hp} {a : Addr} {kvs : Poly} (h : NDAt K P w H a kvs) (e : Dr K T H H') (t : Tape K T H) (n : a ≠ T.t) : NDAt K P w H' a kvs := by
  obtain ⟨k, hk⟩ := t.there
  exact h.only e.1 n hk True.intro
structure TOk (S : List Str) (g : Int) (kvs : Poly) (i : Nat) : Prop where
  mp : MP kvs
  nz : ∀ t ∈ kvs, t.2 ≠ 0
  ov : Over (· ∈ S) kvs
  td : ∀ t ∈ kvs, tdeg t.1 ≤ 5
  co : ∀ t ∈ kvs, t.2.natAbs ≤ g.natAbs
  len : kvs.length ≤ i
theorem mem_put {p : Poly} {m : Mono} {c : Int} {t : Mono × Int} (h : t ∈ putP p m c) : t = (m, c) ∨ t ∈ p := by
  unfold putP at h
  split at h
  · obtain ⟨s, hs, rfl⟩ := List.mem_map.mp h
    by_cases e : s.1 = m
    · rw [if_pos e, e]; exact .inl rfl
    · rw [if_neg e]; exact .inr hs
  · rcases List.mem_append.mp h with z | z
    · exact .inr z
    · simp at z; exact .inl z
theorem TOk.put {S : List Str} {g : Int} {kvs : Poly} {i : Nat} {m : Mono} {c : Int} (h : TOk S g kvs i) (cm : CanonM m) (cn : c ≠ 0) (ho : ∀ q ∈ m, q.1 ∈ S) (ht : tdeg m ≤ 5) (hc : c.natAbs ≤ g.natAbs) : TOk S g (putP kvs m c) (i + 1) := by
  refine ⟨mp_put h.mp cm, fun t z => ?_, fun t z => ?_, fun t z => ?_, fun t z => ?_, Nat.le_trans (len_put kvs m c) (Nat.succ_le_succ h.len)⟩
  · rcases mem_put z with rfl | z
    · exact cn
    · exact h.nz t z
  · rcases mem_put z with rfl | z
    · exact ho
    · exact h.ov t z
  · rcases mem_put z with rfl | z
    · exact ht
    · exact h.td t z
  · rcases mem_put z with rfl | z
    · exact hc
    · exact h.co t z
section
variable {P : Program} {w : World} {K : PySem.W.Frag} {mg : Str → Option Value} {base : Heap} {f f1 f2 f3 : Addr} {fd fd1 fd2 fd3 : FuncData}
def spTable (K : PySem.W.Frag) (P : Program) (w : World) : Sp := fun vs H Q _ => ∃ (T : Tp) (sl : Addr) (S : List Str) (n : Nat) (g : Int), vs = [.ref T.t, .ref sl, .int n, .int 5, .int g] ∧ Tape K T H ∧ SqL K H sl (S.map V.str) ∧ S ≠ [] ∧ S.length ≤ 6 ∧ n ≤ 100 ∧ 10 ^ 6 ≤ g ∧ g < 2 ^ 200 ∧
  ∀ tb H' kvs, Dr K T H H' → NDAt K P w H' tb kvs → TOk S g kvs n → Q (.ref tb) H'
abbrev nTable : List Str := ["_law_tape_here", "_law_signs_here", "_law_terms", "_law_height", "_law_great", "_law_table_here", "_law_k", "_law_exponents", "_law_left", "_law_turn", "_law_more", "_law_sign", "_law_monomial"]
theorem scTable : FnScope nTable ["_law_tape_here", "_law_signs_here", "_law_terms", "_law_height", "_law_great"] (defScope (top 31)) := ⟨rfl, rfl, rfl, by decide +kernel, rfl, by decide +kernel, by decide +kernel⟩
theorem ok_table (F : FnP K "_law_table" 31 f fd) (G : FnOk P w K mg base CX0 2 f1 fd1 ["_law_tape_here", "_law_many"] (spDraw K)) (b1 : Binds K fd1 ["_law_tape_here", "_law_many"] []) (k1 : PySem.W.keepIn K (.ref f1) = true) (g1 : mg "_law_draw" = some (.ref f1))
    (G2 : FnOk P w K mg base CX0 3 f2 fd2 ["_law_tape_here", "_law_great"] (spFactor K)) (b2 : Binds K fd2 ["_law_tape_here", "_law_great"] []) (k2 : PySem.W.keepIn K (.ref f2) = true) (g2 : mg "_law_factor" = some (.ref f2))
    (gR : mg "range" = none) (gL : mg "len" = none) (gT : mg "tuple" = none) (gS : mg "sorted" = none) (gLi : mg "list" = none) :
    FnOk P w K mg base CX0 4 f fd ["_law_tape_here", "_law_signs_here", "_law_terms", "_law_height", "_law_great"] (spTable K P w) := by
  have nd := scTable.nd
  refine F.ok scTable (fun vs H Q E h => ?_) (fun cdv A outer s H vs Q E hr h => ⟨_, PSs.nox (pss_cons (ps_set (i := 5) nd rfl (.inl rfl) pe_ndnew)
    (pss_cons (ps_for PassesOwn.never rfl (pi_range1 (by rfl) gR (pa_cons (pe_call G (hr.mono (by decide)) (by rfl) g1 k1 b1 .nil pass0 (pa_cons (pv 0) (pa_cons (pe_op op_add (pv 2) pe_int) pa_nil))) pa_nil)) (pg_name (i := 6) nd rfl (.inl rfl))
      (pss_cons (ps_set (i := 7) nd rfl (.inr rfl) pe_dnewK)
      (pss_cons (ps_set (i := 8) nd rfl (.inl rfl) (pv 3))
      (pss_cons (ps_for PassesOwn.never rfl (pi_range1 (by rfl) gR (pa_cons (pe_call G (hr.mono (by decide)) (by rfl) g1 k1 b1 .nil pass0 (pa_cons (pv 0) (pa_cons pe_int pa_nil))) pa_nil)) (pg_name (i := 9) nd rfl (.inl rfl))
        (pss_cons (ps_set (i := 10) nd rfl (.inl rfl) (pe_op op_add pe_int (pe_call G (hr.mono (by decide)) (by rfl) g1 k1 b1 .nil pass0 (pa_cons (pv 0) (pa_cons pe_int pa_nil)))))
        (pss_one (ps_if (pt_cmpR op_le (pv 10) (pv 8) (nomark _))
          (pss_cons (ps_set (i := 11) nd rfl (.inl rfl) (pe_ix ix_list (pv 1) (pe_call G (hr.mono (by decide)) (by rfl) g1 k1 b1 .nil pass0 (pa_cons (pv 0) (pa_cons (pe_callB call_len_seq (by rfl) gL boot_len (pa_cons (pv 1) pa_nil)) pa_nil))) (fun _ _ => rfl)))
          (pss_cons (ps_dput (hu_of hr) (pv 7) (pv 11) (pe_op op_add (pe_dget2 (hu_of hr) (pv 7) (pv 11) pe_int ⟨rfl, rfl, rfl, rfl⟩) (pv 10)) rfl)
          (pss_one (ps_set (i := 8) nd rfl (.inl rfl) (pe_op op_sub (pv 8) (pv 10)))))) pss_nil))))
      (pss_cons (ps_set (i := 12) nd rfl (.inl rfl) (pe_callTy call_tupleZ (by rfl) gT PyProof.Rows.boot_tuple (pa_cons (pe_lc (own := [("_law_sign", 11)]) (g := gName 11) (tt := tYes) (te := tTup (tCons (tVar 11) (tCons (tDGet (tVar 7) (tVar 11)) tNil))) rfl nd
          (pi_seq (pe_callB (call_sortedD (enc := PyData.str) hr.units) (by rfl) gS boot_sorted (pa_cons (pe_callTy (call_list_dK rfl) (by rfl) gLi PyProof.Rows.boot_list (pa_cons (pv 7) pa_nil)) pa_nil)))
          (blkOk_by (own := [("_law_sign", 11)]) (N := nTable) (sc := defScope (top 31)) (by decide +kernel)) (fun _ _ _ _ _ => pg_name (i := 11) nd rfl (.inl rfl)) (fun _ _ _ _ _ => pts_nil)
          (fun _ _ _ _ _ => pe_tup (pa_cons (pv 11) (pa_cons (pe_dget (hu_of hr) (pv 7) (pv 11) (fun _ _ => rfl)) pa_nil)))) pa_nil)))
      (pss_one (ps_ndput hr.units (pv 5) (pv 12) (pe_call G2 hr (by rfl) g2 k2 b2 .nil pass0 (pa_cons (pv 0) (pa_cons (pv 4) pa_nil))) rfl)))))))
    (pss_one (ps_ret (pv 5))))), ?_⟩)
  · obtain ⟨T, sl, S, n, g, rfl, _⟩ := h; rfl
  · obtain ⟨T, sl, S, n, g, rfl, ht, hs, hS, hS6, hn, hg, hg2, hq⟩ := h
    have sz : 1000 ≤ sizeLine := by decide
    intro tb o htb so hnd
    have ntb : tb ≠ T.t := fun z => by obtain ⟨k, hk⟩ := ht.there; rw [z, hk] at htb; cases htb
    refine ⟨_, rfl, _, rfl, _, _, rfl, rfl, T, _, rfl, ht.same (same_new htb), by omega, by omega, fun d H1 e1 d0 d1 => ⟨_, rfl, (by omega), (by omega), ?_⟩⟩
    have e1' : Dr K T H H1 := (Dr.of ht (same_new htb)).trans e1
    refine for_range (lo := 0) (n := d.toNat) (fun i σ H' => ∃ x6 x7 x8 x9 x10 x11 x12 kvs, σ = [some (.ref T.t), some (.ref sl), some (.int n), some (.int 5), some (.int g), some (.ref tb), x6, x7, x8, x9, x10, x11, x12] ∧ Dr K T H H' ∧ NDAt K P w H' tb kvs ∧ TOk S g kvs i) ?_ ?_ ?_
    · exact ⟨none, none, none, none, none, none, none, [], rfl, e1', nd_dr hnd e1 (ht.same (same_new htb)) ntb, (fun _ h => by cases h), (fun _ h => by cases h), (fun _ h => by cases h), (fun _ h => by cases h), (fun _ h => by cases h), Nat.le_refl _⟩
    · rintro i σ H2 hi ⟨x6, x7, x8, x9, x10, x11, x12, kvs, rfl, e2, nd2, tok⟩
      intro xd hxd
      have hxd0 : H xd = none := none_dr ht e2 hxd
      have nxt : xd ≠ T.t := fun z => by obtain ⟨k, hk⟩ := ht.there; rw [z, hk] at hxd0; cases hxd0
      have nxb : tb ≠ xd := fun z => by obtain ⟨o, ho, _⟩ := nd2.there; rw [z, hxd] at ho; cases ho
      refine ⟨_, rfl, ?_⟩
      refine ⟨_, rfl, T, 4, rfl, e2.2.2.same (same_new hxd), by decide, by decide, fun d3 H3 e3 d30 d31 => ⟨_, rfl, (by omega), (by omega), ?_⟩⟩
      refine for_range (lo := 0) (n := d3.toNat) (fun j σ H' => ∃ x9 x10 x11 mm lf, σ = [some (.ref T.t), some (.ref sl), some (.int n), some (.int 5), some (.int g), some (.ref tb), some (.int (0 + (i : Int))), some (.ref xd), some (.int lf), x9, x10, x11, x12] ∧ Dr K T H H' ∧ NDAt K P w H' tb kvs ∧ H' xd = some (.dK (mm.map kvQ)) ∧ (nms mm).Nodup ∧ (∀ q ∈ mm, 1 ≤ q.2) ∧ (∀ q ∈ mm, q.1 ∈ S) ∧ (tdeg mm : Int) + lf = 5 ∧ 0 ≤ lf ∧ mm.length ≤ j) ?_ ?_ ?_
      · exact ⟨_, _, _, [], 5, rfl, (e2.same (same_new hxd)).trans e3, nd_dr (nd2.same (same_new hxd)) e3 (e2.2.2.same (same_new hxd)) ntb, e3.1 _ _ upd_same nxt, .nil, (fun _ h => by cases h), (fun _ h => by cases h), by decide, by decide, Nat.le_refl _⟩
      · rintro j σ H4 hj ⟨y9, y10, y11, mm, lf, rfl, e4, nd4, hx4, hnn, hpp, hin, htd, hlf, hml⟩
        refine ⟨_, rfl, T, 3, rfl, e4.2.2, by decide, by decide, fun d5 H5 e5 d50 d51 => ⟨_, _, rfl, rfl, ?_⟩⟩
        have hx5 := e5.1 _ _ hx4 nxt
        have nd5 := nd_dr nd4 e5 e4.2.2 ntb
        refine ⟨_, rfl, _, rfl, _, _, rfl, rfl, _, rfl, ?_⟩
        by_cases hle : 1 + d5 ≤ lf
        · rw [decide_eq_true hle]
          have hs5 := sqL_keep (e4.trans e5).2.1 hs
          have hSl : 1 ≤ S.length := by
            cases S with
            | nil => exact absurd rfl hS
            | cons _ _ => simp
          refine ⟨_, rfl, _, rfl, _, rfl, sl, _, rfl, .inl hs5, T, _, rfl, e5.2.2, (by rw [List.length_map]; omega), (by rw [List.length_map]; omega), fun d6 H6 e6 d60 d61 => ?_⟩
          obtain ⟨v, hv, hv2⟩ := atI_some (xs := S.map V.str) d60 d61
          rw [List.getElem?_map] at hv2
          obtain ⟨x, hx, rfl⟩ := Option.map_eq_some_iff.mp hv2
          have hxS : x ∈ S := List.mem_of_getElem? hx
          have hx6 := e6.1 _ _ hx5 nxt
          have nd6 := nd_dr nd5 e6 e5.2.2 ntb
          refine ⟨sl, _, d6, _, rfl, rfl, sqL_keep e6.2.1 hs5, hv, ?_⟩
          refine ⟨_, rfl, xd, rfl, .inl ⟨_, .inl hx6⟩, _, rfl, (getQ mm x).map V.int, .inl ⟨_, .inr x, .inl hx6, rfl, (val_kvQ x mm).symm⟩, _, rfl, ?_⟩
          have eo : ((getQ mm x).map V.int).getD (.int 0) = .int (ex mm x) := by
            rw [← getQ_ex]
            cases getQ mm x <;> rfl
          rw [eo]
          have h0 : 0 ≤ ex mm x := ex_nonneg x hpp
          refine ⟨_, _, rfl, rfl, ?_⟩
          refine ⟨_, rfl, _, rfl, xd, _, rfl, .inl ⟨_, .inr x, hx6, rfl, (by rw [List.length_map]; omega), rfl⟩, ?_⟩
          rw [put_kvQ]
          have htp := tdeg_put (n := x) (v := ex mm x + (1 + d5)) hnn
          refine ⟨_, rfl, _, rfl, _, _, rfl, rfl, ?_⟩
          refine ⟨_, _, _, putQ mm x (ex mm x + (1 + d5)), lf - (1 + d5), rfl, ((e4.trans e5).trans e6).mut ht hxd0, nd6.upd (Ne.symm nxb) (keep_soft hx6 True.intro), upd_same, nodup_putQ hnn, pos_putQ hpp (by omega), ?_, by omega, by omega, by have := len_putQ mm x (ex mm x + (1 + d5)); omega⟩
          intro q hq0
          have : q.1 ∈ nms (putQ mm x (ex mm x + (1 + d5))) := List.mem_map.mpr ⟨q, hq0, rfl⟩
          rw [nms_put] at this
          split at this
          · obtain ⟨r, hr, er⟩ := List.mem_map.mp this
            rw [← er]; exact hin r hr
          · rcases List.mem_append.mp this with z | z
            · obtain ⟨r, hr, er⟩ := List.mem_map.mp z
              rw [← er]; exact hin r hr
            · simp at z; rw [z]; exact hxS
        · rw [decide_eq_false hle]
          exact ⟨_, _, _, mm, lf, rfl, e4.trans e5, nd5, hx5, hnn, hpp, hin, htd, hlf, by omega⟩
      · rintro σ H4 ⟨y9, y10, y11, mm, lf, rfl, e4, nd4, hx4, hnn, hpp, hin, htd, hlf, hml⟩
        refine ⟨_, rfl, xd, _, rfl, hx4, fun q hq0 => ?_⟩
        have el : (mm.map kvQ).map (fun kv => kV kv.1) = (nms mm).map V.str := by
          unfold nms
          rw [List.map_map, List.map_map]; rfl
        rw [el]
        have sq : Same H4 (upd H4 q (.lst ((nms mm).map V.str))) := same_new hq0
        refine ⟨fun n x => x = .str n, q, _, nms mm, rfl, SqX.of_l upd_same, ?_, fun n x h => by rw [h]; exact .str n, sortOkN _, fun ys p hys hp0 => ?_⟩
        · generalize nms mm = L
          induction L with
          | nil => exact .nil
          | cons n L ih => exact .cons rfl ih
        have sp : Same H4 (upd (upd H4 q (.lst ((nms mm).map V.str))) p (.lst ys)) := sq.trans (same_new hp0)
        refine ⟨p, rfl, lc_map (fun n y H => Dp K H y (encQ (n, ex mm n))) (fun _ => true) (l := sortN (nms mm)) (fun _ _ _ _ h e => h.same e) (.inl (SqX.of_l upd_same)) (Keep.refl _) hys.length ?_ ?_⟩
        · rintro D a x nm H5 Kt Kf hD hx hnm e5 k1 _ ⟨acc, eD⟩
          obtain ⟨nm', hnm', rfl⟩ := paired_at hys hx
          rw [hnm] at hnm'
          cases hnm'
          have hmem : nm ∈ nms mm := (List.mergeSort_perm (nms mm) (PySem.W.dataLe false PyData.str)).mem_iff.mp (List.mem_of_getElem? hnm)
          obtain ⟨r, hr, er⟩ := List.mem_map.mp hmem
          have hg : valV (mm.map kvQ) (.inr nm) = some (.int (ex mm nm)) := by
            rw [val_kvQ, ← er, getQ_mem hnn hr, ex_nodup hnn hr]
            rfl
          have hx5 := e5 _ _ (sp _ _ hx4)
          refine ⟨rfl, _, rfl, _, rfl, _, rfl, xd, _, rfl, .inl ⟨_, .inr nm, .inl hx5, rfl, hg.symm⟩, (by show 2 ≤ sizeLine; decide), fun p2 hp2 => k1 _ _ rfl (same_new hp2) ?_⟩
          have n2 : p2 ≠ D := fun z => by rw [z, eD] at hp2; cases hp2
          exact Dp.newTup (xs := [.str nm, .int (ex mm nm)]) ((out_ne n2).trans upd_same) (.cons (.str _) (.cons (.int _) .nil))
        · rintro D acc H5 hD e5 eD hacc
          rw [List.filter_eq_self.mpr fun _ _ => rfl] at hacc
          refine ⟨D, acc, rfl, SqX.of_l eD, fun m om hm0 hpl som => ?_⟩
          have s6 : Same H4 (upd H5 m om) := (sp.trans e5).trans (same_new hm0)
          have dpm : DpAll K (upd H5 m om) acc ((ofDict mm).map encQ) := by
            unfold ofDict
            rw [List.map_map]
            exact (pair_dpAll (f := encQ ∘ fun n => (n, ex mm n)) (fun _ _ z => z) hacc).same (out_le.trans (same_new hm0))
          refine ⟨_, rfl, _, rfl, T, g, rfl, e4.2.2.same s6, hg, hg2, fun c H7 e7 cn cb => ?_⟩
          have nd7 := nd_dr (nd4.same s6) e7 (e4.2.2.same s6) ntb
          have mk : MK K H7 m (ofDict mm) := ⟨acc, hpl.keep e7.2.1, dpm.keep e7.2.1⟩
          have ct := ofDict_canon hnn hpp
          refine ⟨_, rfl, _, rfl, tb, m, kvs, ofDict mm, c, rfl, rfl, rfl, nd7, (by have := tok.len; omega), mk, fun o7 so7 hn7 => ⟨_, _, _, _, _, _, _, _, rfl, ((e4.same s6).trans e7).mut ht htb, hn7, tok.put ct cn (fun q hq => hin q ((ofDict_perm hnn).mem_iff.mp hq)) ?_ cb⟩⟩
          rw [tdeg_perm (ofDict_perm hnn)]
          omega
    · rintro σ H2 ⟨x6, x7, x8, x9, x10, x11, x12, kvs, rfl, e2, nd2, tok⟩
      exact ⟨_, rfl, hq tb H2 kvs e2 nd2 ⟨tok.mp, tok.nz, tok.ov, tok.td, tok.co, by have := tok.len; omega⟩⟩
end
end K03
set_option Elab.async false
set_option linter.all false
set_option maxRecDepth 100000
set_option maxHeartbeats 4000000
/-! poly, handed -/
namespace K03
open PySem PySem.Spec PyProof.Rows L2
theorem keysAt_paired {K : PySem.W.Frag} {H : Hp} : ∀ {kvs : Poly} {bs : List Addr}, KeysAt K H kvs bs → Paired (fun m x => ∃ b, x = .ref b ∧ MK K H b m) (keys kvs) (bs.map V.ref)
  | [], [], _ => .nil
  | [], _ :: _, h => by cases h.1
  | _ :: _, [], h => by cases h.1
  | t :: r, b :: bs, h => .cons ⟨b, rfl, h.2 0 t b rfl rfl⟩ (keysAt_paired ⟨by have := h.1; simpa using this, fun i t b e1 e2 => h.2 (i + 1) t b (by simpa using e1) (by simpa using e2)⟩)
abbrev cof (kvs : Poly) (m : Mono) : Int := (getP kvs m).getD 0
/-- the polynomial of a table -/
def ofTable (kvs : Poly) : Poly := (sortM (keys kvs)).map fun m => (m, cof kvs m)
theorem ofTable_perm {kvs : Poly} (hn : (keys kvs).Nodup) : (ofTable kvs).Perm kvs := by
  have h1 : (ofTable kvs).Perm ((keys kvs).map fun m => (m, cof kvs m)) := (List.mergeSort_perm (keys kvs) (PySem.W.dataLe false encM)).map _
  have h2 : ((keys kvs).map fun m => (m, cof kvs m)) = kvs := by
    unfold keys
    rw [List.map_map]
    conv => rhs; rw [← List.map_id kvs]
    refine List.map_congr_left fun q hq => ?_
    show (q.1, cof kvs q.1) = q
    unfold cof
    rw [getP_mem hn hq]
    rfl
  rwa [h2] at h1
theorem ofTable_canon {kvs : Poly} (hn : (keys kvs).Nodup) (hm : MP kvs) (hz : ∀ t ∈ kvs, t.2 ≠ 0) : CanonP mlt (ofTable kvs) :=
  ⟨List.pairwise_map.mpr (sortM_rise hn), fun t ht => hz t ((ofTable_perm hn).mem_iff.mp ht), fun t ht => hm t ((ofTable_perm hn).mem_iff.mp ht)⟩
section
variable {P : Program} {w : World} {K : PySem.W.Frag} {mg : Str → Option Value} {base : Heap} {f f1 f2 f3 : Addr} {fd fd1 fd2 fd3 : FuncData}
def spPoly (K : PySem.W.Frag) (P : Program) (w : World) : Sp := fun vs H Q _ => ∃ a kvs, vs = [.ref a] ∧ NDAt K P w H a kvs ∧ MP kvs ∧ (∀ t ∈ kvs, t.2 ≠ 0) ∧ ∀ v H', Same H H' → Dp K H' v (encP (ofTable kvs)) → Q v H'
abbrev nPoly : List Str := ["_law_table_here", "_law_monomial"]
theorem scPoly : FnScope nPoly ["_law_table_here"] (defScope (top 32)) := ⟨rfl, rfl, rfl, by decide +kernel, rfl, by decide +kernel, by decide +kernel⟩
theorem ok_poly (F : FnP K "_law_poly" 32 f fd) (gT : mg "tuple" = none) (gS : mg "sorted" = none) (gLi : mg "list" = none) : FnOk P w K mg base CX0 1 f fd ["_law_table_here"] (spPoly K P w) := by
  have nd := scPoly.nd
  refine F.ok scPoly (fun vs H Q E h => ?_) (fun cdv A outer s H vs Q E hr h => ⟨_, PSs.nox (pss_one (ps_ret (pe_callTy call_tuple_of (by rfl) gT PyProof.Rows.boot_tuple (pa_cons
      (pe_lc (own := [("_law_monomial", 1)]) (g := gName 1) (tt := tTest (tOp rNe (tNDGet K P w (tVar 0) (tVar 1)) (tC (.int 0)))) (te := tTup (tCons (tVar 1) (tCons (tNDGet K P w (tVar 0) (tVar 1)) tNil))) rfl nd
        (pi_seq (pe_callB (call_sortedD (enc := encM) hr.units) (by rfl) gS boot_sorted (pa_cons (pe_callTy (call_list_nd rfl) (by rfl) gLi PyProof.Rows.boot_list (pa_cons (pv 0) pa_nil)) pa_nil)))
        (blkOk_by (own := [("_law_monomial", 1)]) (N := nPoly) (sc := defScope (top 32)) (by decide +kernel)) (fun _ _ _ _ _ => pg_name (i := 1) nd rfl (.inl rfl))
        (fun _ _ _ _ _ => pts_one (pt_cmpR op_ne (pe_ndget hr.units (pv 0) (pv 1) (fun _ _ => rfl)) pe_int (nomark _)))
        (fun _ _ _ _ _ => pe_tup (pa_cons (pv 1) (pa_cons (pe_ndget hr.units (pv 0) (pv 1) (fun _ _ => rfl)) pa_nil)))) pa_nil)))), ?_⟩)
  · obtain ⟨a, kvs, rfl, _⟩ := h; rfl
  · obtain ⟨a, kvs, rfl, hd, hm, hz, hq⟩ := h
    refine ⟨_, rfl, a, kvs, rfl, hd, fun p bs hp hk => ?_⟩
    have s1 : Same H (upd H p (.lst (bs.map V.ref))) := same_new hp
    refine ⟨fun m x => ∃ b, x = .ref b ∧ MK K (upd H p (.lst (bs.map V.ref))) b m, p, _, keys kvs, rfl, SqX.of_l upd_same, keysAt_paired (hk.keep (.of s1)), fun m x ⟨b, e, mk⟩ => by rw [e]; exact mk.dp, sortOkM _, fun ys p2 hys hp2 => ?_⟩
    have s2 : Same H (upd (upd H p (.lst (bs.map V.ref))) p2 (.lst ys)) := s1.trans (same_new hp2)
    refine ⟨p2, rfl, lc_map (fun m y H => Dp K H y (encT (m, cof kvs m))) (fun _ => true) (l := sortM (keys kvs)) (fun _ _ _ _ h e => h.same e) (.inl (SqX.of_l upd_same)) (Keep.refl _) hys.length ?_ ?_⟩
    · rintro D i x m H3 Kt Kf hD hx hm0 e3 k1 _ ⟨acc, eD⟩
      obtain ⟨m', hm', b, rfl, mk⟩ := paired_at hys hx
      rw [hm0] at hm'
      cases hm'
      have hmem : m ∈ keys kvs := (List.mergeSort_perm (keys kvs) (PySem.W.dataLe false encM)).mem_iff.mp (List.mem_of_getElem? hm0)
      obtain ⟨t, ht, et⟩ := List.mem_map.mp hmem
      have hg : getP kvs m = some (cof kvs m) := by
        unfold cof
        rw [← et, getP_mem hd.nodup ht]
        rfl
      have hz1 : cof kvs m ≠ 0 := by
        unfold cof
        rw [← et, getP_mem hd.nodup ht]
        exact hz t ht
      have mk3 : MK K H3 b m := mk.keep (.of ((same_new hp2).trans e3))
      have nd3 := hd.same (s2.trans e3)
      refine ⟨rfl, _, rfl, _, rfl, a, b, kvs, m, _, rfl, rfl, nd3, mk3, hg, rfl, true, (by simp [hz1]), ?_⟩
      refine ⟨_, rfl, _, rfl, _, rfl, a, b, kvs, m, _, rfl, rfl, nd3, mk3, hg, (by show 2 ≤ sizeLine; decide), fun q hq0 => k1 _ _ rfl (same_new hq0) ?_⟩
      have nq : q ≠ D := fun z => by rw [z, eD] at hq0; cases hq0
      have mkO : MK K (Out D (upd H3 q (.tup [.ref b, .int (cof kvs m)]))) b m := mk.keep (.of ((same_new hp2).trans (out_of (e3.trans (same_new hq0)) hD)))
      exact Dp.newTup (xs := [.ref b, .int (cof kvs m)]) ((out_ne nq).trans upd_same) (.cons mkO.dp (.cons (.int _) .nil))
    · rintro D acc H3 hD e3 eD hacc
      rw [List.filter_eq_self.mpr fun _ _ => rfl] at hacc
      refine ⟨D, acc, rfl, .inl ⟨SqX.of_l eD, fun l hl => hq _ _ ((s2.trans e3).trans (same_new hl)) (Dp.newTup upd_same ?_)⟩⟩
      unfold ofTable
      rw [List.map_map]
      exact (pair_dpAll (f := encT ∘ fun m => (m, cof kvs m)) (fun _ _ z => z) hacc).same (out_le.trans (same_new hl))
def spHanded (K : PySem.W.Frag) : Sp := fun vs H Q _ => ∃ T v R, vs = [.ref T.t, v] ∧ Tape K T H ∧ PAt K H v R ∧ ∀ v' H', Dr K T H H' → PAt K H' v' R → Q v' H'
abbrev nHanded : List Str := ["_law_tape_here", "_law_poly_here", "_law_pair", "_law_monomial", "_law_number"]
theorem scHanded : FnScope nHanded ["_law_tape_here", "_law_poly_here"] (defScope (top 33)) := ⟨rfl, rfl, rfl, by decide +kernel, rfl, by decide +kernel, by decide +kernel⟩
theorem ok_handed (F : FnP K "_law_handed" 33 f fd) (G : FnOk P w K mg base CX0 2 f1 fd1 ["_law_tape_here", "_law_many"] (spDraw K)) (b1 : Binds K fd1 ["_law_tape_here", "_law_many"] []) (k1 : PySem.W.keepIn K (.ref f1) = true) (g1 : mg "_law_draw" = some (.ref f1)) (gLi : mg "list" = none) :
    FnOk P w K mg base CX0 3 f fd ["_law_tape_here", "_law_poly_here"] (spHanded K) := by
  have nd := scHanded.nd
  refine F.ok scHanded (fun vs H Q E h => ?_) (fun cdv A outer s H vs Q E hr h => ⟨_, PSs.nox (pss_cons (ps_if (pt_cmpR op_eq (pe_call G hr (by rfl) g1 k1 b1 .nil pass0 (pa_cons (pv 0) (pa_cons pe_int pa_nil))) pe_int (nomark _))
      (pss_one (ps_ret (pe_lc (own := [("_law_monomial", 3), ("_law_number", 4)]) (g := gSeq K 2 (gCons (gName 3) (gCons (gName 4) gNil))) (tt := tYes)
        (te := tLst (tCons (tLc (iSeq K (tVar 3)) (gName 2) tYes (tCB (fun xs H Q => ∃ p ys, xs = [.ref p] ∧ (SqL K H p ys ∨ SqT K H p ys) ∧ ∀ l, H l = none → Q (.ref l) (upd H l (.lst ys))) (tCons (tVar 2) tNil)) [2]) (tCons (tVar 4) tNil))) rfl nd (pi_seq (pv 1))
        (blkOk_by (own := [("_law_monomial", 3), ("_law_number", 4)]) (N := nHanded) (sc := defScope (top 33)) (by decide +kernel))
        (fun _ _ _ _ _ => pg_seq rfl (pgs_cons (pg_name (i := 3) nd rfl (.inl rfl)) (pgs_cons (pg_name (i := 4) nd rfl (.inl rfl)) pgs_nil))) (fun _ _ _ _ _ => pts_nil)
        (fun _ _ _ _ _ => pe_lst (pa_cons (pe_lc (own := [("_law_pair", 2)]) (g := gName 2) (tt := tYes) rfl nd (pi_seq (pv 3)) (blkOk_by (own := [("_law_pair", 2)]) (N := nHanded) (sc := { kind := .function, names := [(".0", .local), ("_law_monomial", .local), ("_law_number", .local)], isGenerator := false, isCoroutine := false }) (by decide +kernel)) (fun _ _ _ _ _ => pg_name (i := 2) nd rfl (.inl rfl)) (fun _ _ _ _ _ => pts_nil)
          (fun _ _ _ _ _ => pe_callTy call_list_of (by rfl) gLi PyProof.Rows.boot_list (pa_cons (pv 2) pa_nil))) (pa_cons (pv 4) pa_nil)))))) pss_nil)
    (pss_one (ps_ret (pv 1)))), ?_⟩)
  · obtain ⟨T, v, R, rfl, _⟩ := h; rfl
  · obtain ⟨T, v, R, rfl, ht, hp, hq⟩ := h
    refine ⟨_, rfl, T, 4, rfl, ht, by decide, by decide, fun d H1 e1 d0 d1 => ⟨rfl, _, rfl, ?_⟩⟩
    cases hb : decide (V.int d = V.int 0) with
    | false => exact ⟨_, rfl, hq v H1 e1 (hp.keep e1.2.1)⟩
    | true =>
      obtain ⟨a, xs, rfl, hsq, hps⟩ := hp.keep e1.2.1
      refine ⟨_, rfl, a, rfl, lc_map (fun t y H => TAt K H t y) (fun _ => true) (l := R) (fun _ _ _ _ h e => h.keep (.of e)) hsq (Keep.refl _) hps.length ?_ ?_⟩
      · rintro D i x t H2 Kt Kf hD hx ht2 e2 k1 _ ⟨acc, eD⟩
        obtain ⟨t', ht', a2, y, rfl, hs2, a3, ys, rfl, hs3, hm⟩ := paired_at hps hx
        rw [ht2] at ht'
        cases ht'
        refine ⟨a2, _, rfl, hs2.keep (.of e2), rfl, _, _, rfl, _, _, rfl, rfl, rfl, ?_⟩
        refine ⟨_, rfl, a3, rfl, lc_map (fun q y H => QAt K (Out D H) q y) (fun _ => true) (l := t.1) (fun _ _ _ _ h e => h.keep (.of (out_same e))) hs3 (.of e2) hm.length ?_ ?_⟩
        · rintro D2 j z q H3 Kt2 Kf2 hD2 hz hq0 e3 k2 _ ⟨acc2, eD2⟩
          obtain ⟨q', hq0', a4, rfl, hs4⟩ := paired_at hm hz
          rw [hq0] at hq0'
          cases hq0'
          refine ⟨rfl, _, rfl, a4, _, rfl, hs4.keep (.of (e2.trans e3)), fun l hl => k2 _ _ rfl (same_new hl) ?_⟩
          have n1 : l ≠ D2 := fun z => by rw [z, eD2] at hl; cases hl
          have n2 : l ≠ D := fun z => by rw [z, e3 _ _ eD] at hl; cases hl
          exact ⟨l, rfl, .inl (SqX.of_l ((out_ne n2).trans ((out_ne n1).trans upd_same)))⟩
        · rintro D2 acc2 H3 hD2 e3 eD2 hacc2
          rw [List.filter_eq_self.mpr fun _ _ => rfl] at hacc2
          refine ⟨_, rfl, (by show 2 ≤ sizeLine; decide), fun l hl => k1 _ _ rfl (e3.trans (same_new hl)) ?_⟩
          have n1 : l ≠ D := fun z => by rw [z, e3 _ _ eD] at hl; cases hl
          have n2 : D2 ≠ D := fun z => by rw [z, eD] at hD2; cases hD2
          refine ⟨l, .ref D2, rfl, .inl (SqX.of_l ((out_ne n1).trans upd_same)), D2, acc2, rfl, .inl (SqX.of_l ((out_ne n2).trans (same_new hl _ _ eD2))), Paired.mapP hacc2 fun _ _ z => z.keep (.of (out_same (out_le.trans (same_new hl))))⟩
      · rintro D acc H2 hD e2 eD hacc
        rw [List.filter_eq_self.mpr fun _ _ => rfl] at hacc
        exact hq _ _ (e1.same e2) ⟨D, acc, rfl, .inl (SqX.of_l eD), Paired.mapP hacc fun _ _ z => z.keep (.of out_le)⟩
end
end K03
set_option Elab.async false
set_option linter.all false
set_option maxRecDepth 100000
set_option maxHeartbeats 4000000
/-! is_poly -/
namespace K03
open PySem PySem.Spec PyProof.Rows L2
/-- an expression with this value that leaves all as it is -/
def EvC (te : TE) (σ : L2.St) (H : Hp) (v : V) : Prop := ∀ Q : VK, Q v H → te σ H Q
section
variable {K : PySem.W.Frag} {σ : L2.St} {H : Hp}
theorem ec_var {i : Nat} {v : V} (h : σ[i]? = some (some v)) : EvC (tVar i) σ H v := fun Q q => ⟨v, h, q⟩
theorem ec_c {v : V} : EvC (tC v) σ H v := fun Q q => q
theorem ec_ix {ta tb : TE} {p : Addr} {i : Int} {xs : List V} {v : V} (h1 : EvC ta σ H (.ref p)) (h2 : EvC tb σ H (.int i)) (hs : SqT K H p xs) (hv : atI xs i = some v) : EvC (tOp (rIxT K) ta tb) σ H v := fun Q q => h1 _ (h2 _ ⟨p, xs, i, v, rfl, rfl, hs, hv, q⟩)
theorem ec_sub {ta tb : TE} {i j : Int} (h1 : EvC ta σ H (.int i)) (h2 : EvC tb σ H (.int j)) : EvC (tOp (rI0 fun i j => .int (i - j)) ta tb) σ H (.int (i - j)) := fun Q q => h1 _ (h2 _ ⟨i, j, rfl, rfl, q⟩)
abbrev rLenS (K : PySem.W.Frag) : List V → Hp → VK → Prop := fun xs H Q => ∃ p ys, xs = [.ref p] ∧ (SqL K H p ys ∨ SqT K H p ys) ∧ Q (.int ys.length) H
theorem ec_len {ta : TE} {p : Addr} {xs : List V} (h1 : EvC ta σ H (.ref p)) (hs : SqT K H p xs) : EvC (tCB (rLenS K) (tCons ta tNil)) σ H (.int xs.length) := fun Q q => h1 _ ⟨p, xs, rfl, .inr hs, q⟩
theorem et_isi {te : TE} {x : V} {a b : String} {r : Bool} (h : EvC te σ H x) (ty : TyX K H x (.type a)) (hk : kitB a b = some r) : EvT (tB (tCB (rIsi K) (tCons te (tCons (tC (.ty b)) tNil)))) σ H r := fun Q q => h _ ⟨x, .ty b, .type a, .type b, r, rfl, .ty b, ty, kit_ty hk, r, rfl, q⟩
theorem et_not {t : TT} {b : Bool} (h : EvT t σ H b) : EvT (tNot t) σ H (!b) := fun Q q => h _ q
theorem et_ne {ta tb : TE} {x y : V} (h1 : EvC ta σ H x) (h2 : EvC tb σ H y) (hs : scal x y = true) : EvT (tTest (tOp rNe ta tb)) σ H (!decide (x = y)) := fun Q q => h1 _ (h2 _ ⟨hs, _, rfl, q⟩)
theorem et_eq {ta tb : TE} {x y : V} (h1 : EvC ta σ H x) (h2 : EvC tb σ H y) (hs : scal x y = true) : EvT (tTest (tOp rEq ta tb)) σ H (decide (x = y)) := fun Q q => h1 _ (h2 _ ⟨hs, _, rfl, q⟩)
theorem et_lt {ta tb : TE} {i j : Int} (h1 : EvC ta σ H (.int i)) (h2 : EvC tb σ H (.int j)) : EvT (tTest (tOp (rI0 fun i j => .bl (decide (i < j))) ta tb)) σ H (decide (i < j)) := fun Q q => h1 _ (h2 _ ⟨i, j, rfl, rfl, _, rfl, q⟩)
theorem et_gt {ta tb : TE} {i j : Int} (h1 : EvC ta σ H (.int i)) (h2 : EvC tb σ H (.int j)) : EvT (tTest (tOp (rI0 fun i j => .bl (decide (j < i))) ta tb)) σ H (decide (j < i)) := fun Q q => h1 _ (h2 _ ⟨i, j, rfl, rfl, _, rfl, q⟩)
theorem et_ge {ta tb : TE} {x y : V} {d e : PyData} (h1 : EvC ta σ H x) (h2 : EvC tb σ H y) (hd : Dp K H x d) (he : Dp K H y e) (al : PySem.W.alike d e = true) (nn : d ≠ .none) (dp : d.depth ≤ 8) : EvT (tTest (tOp (rGeD K) ta tb)) σ H (!PySem.W.dataLt d e) := fun Q q => h1 _ (h2 _ ⟨d, e, hd, he, al, nn, dp, _, rfl, q⟩)
theorem et_geF {ta tb : TE} {x y : V} {d e : PyData} (h1 : EvC ta σ H x) (h2 : EvC tb σ H y) (hd : Dp K H x d) (he : Dp K H y e) (al : PySem.W.alike d e = true) (nn : d ≠ .none) (dp : d.depth ≤ 8) (lt : PySem.W.dataLt d e = true) : EvT (tTest (tOp (rGeD K) ta tb)) σ H false := by
  have := et_ge h1 h2 hd he al nn dp
  rw [lt] at this
  exact this
theorem tyx_tup {a : Addr} {xs : List V} (h : SqT K H a xs) : TyX K H (.ref a) (.type "tuple") := by
  rcases h with (h | ⟨o, h⟩) | ⟨o, its, n, h1, h2, _⟩
  · exact .base (.tup h)
  · exact .fTuple h
  · exact .kTuple h1 h2
theorem tyx_int {i : Int} : TyX K H (.int i) (.type "int") := .base (.int i)
theorem tyx_str {x : Str} : TyX K H (.str x) (.type "str") := .base (.str x)
end
section
variable {P : Program} {w : World} {K : PySem.W.Frag} {mg : Str → Option Value} {base : Heap} {f f1 f2 f3 : Addr} {fd fd1 fd2 fd3 : FuncData}
def spIs (K : PySem.W.Frag) : Sp := fun vs H Q _ => ∃ v R, vs = [v] ∧ Dp K H v (encP R) ∧ CanonP mlt R ∧ R.length ≤ 2000 ∧ (∀ t ∈ R, t.1.length ≤ 1000) ∧ Q (.bl true) H
abbrev nIs : List Str := ["_law_thing", "_law_k", "_law_row", "_law_i"]
theorem scIs : FnScope nIs ["_law_thing"] (defScope (top 34)) := ⟨rfl, rfl, rfl, by decide +kernel, rfl, by decide +kernel, by decide +kernel⟩
theorem ok_is (F : FnP K "_law_is_poly" 34 f fd) (gI : mg "isinstance" = none) (gT : mg "tuple" = none) (gL : mg "len" = none) (gN : mg "int" = none) (gB : mg "bool" = none) (gS : mg "str" = none) (gR : mg "range" = none) : FnOk P w K mg base CX0 1 f fd ["_law_thing"] (spIs K) := by
  have nd := scIs.nd
  have bT : bootBuiltins "tuple" = some (.type "tuple") := PyProof.Rows.boot_tuple
  have bI : bootBuiltins "isinstance" = some (.builtin "isinstance") := by decide +kernel
  have bN : bootBuiltins "int" = some (.type "int") := by decide +kernel
  have bB : bootBuiltins "bool" = some (.type "bool") := by decide +kernel
  have bS : bootBuiltins "str" = some (.type "str") := by decide +kernel
  refine F.ok scIs (fun vs H Q E h => ?_) (fun cdv A outer s H vs Q E hr h => ⟨_, PSs.nox (pss_cons (ps_if (pt_not (pt_val (pe_callB call_isi (by rfl) gI bI (pa_cons (pv 0) (pa_cons (pe_bltn (v := .ty "tuple") (by rfl) gT bT rfl) pa_nil))))) (pss_one (ps_ret pe_bl)) pss_nil)
    (pss_cons (ps_for PassesOwn.never rfl (pi_range1 (by rfl) gR (pa_cons (pe_callB call_len_seq (by rfl) gL boot_len (pa_cons (pv 0) pa_nil)) pa_nil)) (pg_name (i := 1) nd rfl (.inl rfl))
      (pss_cons (ps_if (PW.pt (pw_or (pt_not (pt_val (pe_callB call_isi (by rfl) gI bI (pa_cons (pe_ix ix_tup (pv 0) (pv 1) (fun _ _ => rfl)) (pa_cons (pe_bltn (v := .ty "tuple") (by rfl) gT bT rfl) pa_nil)))))
          (pw_or (pt_cmpR op_ne (pe_callB call_len_seq (by rfl) gL boot_len (pa_cons (pe_ix ix_tup (pv 0) (pv 1) (fun _ _ => rfl)) pa_nil)) pe_int (nomark _))
          (pw_or1 (pt_not (pt_val (pe_callB call_isi (by rfl) gI bI (pa_cons (pe_ix ix_tup (pe_ix ix_tup (pv 0) (pv 1) (fun _ _ => rfl)) pe_int (fun _ _ => rfl)) (pa_cons (pe_bltn (v := .ty "tuple") (by rfl) gT bT rfl) pa_nil))))))))) (pss_one (ps_ret pe_bl)) pss_nil)
      (pss_cons (ps_if (PW.pt (pw_or (pt_not (pt_val (pe_callB call_isi (by rfl) gI bI (pa_cons (pe_ix ix_tup (pe_ix ix_tup (pv 0) (pv 1) (fun _ _ => rfl)) pe_int (fun _ _ => rfl)) (pa_cons (pe_bltn (v := .ty "int") (by rfl) gN bN rfl) pa_nil)))))
          (pw_or (pt_val (pe_callB call_isi (by rfl) gI bI (pa_cons (pe_ix ix_tup (pe_ix ix_tup (pv 0) (pv 1) (fun _ _ => rfl)) pe_int (fun _ _ => rfl)) (pa_cons (pe_bltn (v := .ty "bool") (by rfl) gB bB rfl) pa_nil))))
          (pw_or1 (pt_cmpR op_eq (pe_ix ix_tup (pe_ix ix_tup (pv 0) (pv 1) (fun _ _ => rfl)) pe_int (fun _ _ => rfl)) pe_int (nomark _)))))) (pss_one (ps_ret pe_bl)) pss_nil)
      (pss_cons (ps_set (i := 2) nd rfl (.inl rfl) (pe_ix ix_tup (pe_ix ix_tup (pv 0) (pv 1) (fun _ _ => rfl)) pe_int (fun _ _ => rfl)))
      (pss_cons (ps_for PassesOwn.never rfl (pi_range1 (by rfl) gR (pa_cons (pe_callB call_len_seq (by rfl) gL boot_len (pa_cons (pv 2) pa_nil)) pa_nil)) (pg_name (i := 3) nd rfl (.inl rfl))
        (pss_cons (ps_if (PW.pt (pw_or (pt_not (pt_val (pe_callB call_isi (by rfl) gI bI (pa_cons (pe_ix ix_tup (pv 2) (pv 3) (fun _ _ => rfl)) (pa_cons (pe_bltn (v := .ty "tuple") (by rfl) gT bT rfl) pa_nil)))))
            (pw_or (pt_cmpR op_ne (pe_callB call_len_seq (by rfl) gL boot_len (pa_cons (pe_ix ix_tup (pv 2) (pv 3) (fun _ _ => rfl)) pa_nil)) pe_int (nomark _))
            (pw_or1 (pt_not (pt_val (pe_callB call_isi (by rfl) gI bI (pa_cons (pe_ix ix_tup (pe_ix ix_tup (pv 2) (pv 3) (fun _ _ => rfl)) pe_int (fun _ _ => rfl)) (pa_cons (pe_bltn (v := .ty "str") (by rfl) gS bS rfl) pa_nil))))))))) (pss_one (ps_ret pe_bl)) pss_nil)
        (pss_cons (ps_if (PW.pt (pw_or (pt_not (pt_val (pe_callB call_isi (by rfl) gI bI (pa_cons (pe_ix ix_tup (pe_ix ix_tup (pv 2) (pv 3) (fun _ _ => rfl)) pe_int (fun _ _ => rfl)) (pa_cons (pe_bltn (v := .ty "int") (by rfl) gN bN rfl) pa_nil)))))
            (pw_or (pt_val (pe_callB call_isi (by rfl) gI bI (pa_cons (pe_ix ix_tup (pe_ix ix_tup (pv 2) (pv 3) (fun _ _ => rfl)) pe_int (fun _ _ => rfl)) (pa_cons (pe_bltn (v := .ty "bool") (by rfl) gB bB rfl) pa_nil))))
            (pw_or1 (pt_cmpR op_lt (pe_ix ix_tup (pe_ix ix_tup (pv 2) (pv 3) (fun _ _ => rfl)) pe_int (fun _ _ => rfl)) pe_int (nomark _)))))) (pss_one (ps_ret pe_bl)) pss_nil)
        (pss_one (ps_if (PW.pt (pw_and (pt_cmpR op_gt (pv 3) pe_int (nomark _)) (pw_and1 (pt_cmpR (op_geD hr.units) (pe_ix ix_tup (pe_ix ix_tup (pv 2) (pe_op op_sub (pv 3) pe_int) (fun _ _ => rfl)) pe_int (fun _ _ => rfl)) (pe_ix ix_tup (pe_ix ix_tup (pv 2) (pv 3) (fun _ _ => rfl)) pe_int (fun _ _ => rfl)) (nomark _))))) (pss_one (ps_ret pe_bl)) pss_nil)))))
      (pss_one (ps_if (PW.pt (pw_and (pt_cmpR op_gt (pv 1) pe_int (nomark _)) (pw_and1 (pt_cmpR (op_geD hr.units) (pe_ix ix_tup (pe_ix ix_tup (pv 0) (pe_op op_sub (pv 1) pe_int) (fun _ _ => rfl)) pe_int (fun _ _ => rfl)) (pv 2) (nomark _))))) (pss_one (ps_ret pe_bl)) pss_nil)))))))
    (pss_one (ps_ret pe_bl)))), ?_⟩)
  · obtain ⟨v, R, rfl, _⟩ := h; rfl
  · obtain ⟨v, R, rfl, hv, hc, hR, hRl, hq⟩ := h
    obtain ⟨a, xs, rfl, hs, hall⟩ := hv.tupI
    have hlen : xs.length = R.length := by have := hall.len; simpa using this
    have term : ∀ k : Nat, k < R.length → ∃ (a2 a3 : Addr) (ys : List V), xs[k]? = some (.ref a2) ∧ ∃ t, R[k]? = some t ∧ SqT K H a2 [.ref a3, .int t.2] ∧ SqT K H a3 ys ∧ DpAll K H ys (t.1.map encQ) := fun k hk => by
      have ht : R[k]? = some R[k] := List.getElem?_eq_getElem hk
      obtain ⟨x, hx, hd⟩ := hall.get (i := k) (d := encT R[k]) (by rw [List.getElem?_map, ht]; rfl)
      obtain ⟨a2, zs, rfl, h2, h3⟩ := hd.tupI
      obtain ⟨y, z, rfl, h4, h5⟩ := h3.two
      cases h5.intI
      obtain ⟨a3, ys, rfl, h6, h7⟩ := h4.tupI
      exact ⟨a2, a3, ys, hx, _, ht, h2, h6, h7⟩
    refine if_stepN (et_not (et_isi (ec_var rfl) (tyx_tup hs) (r := true) (by decide +kernel))) (fun z => by cases z) fun _ => ?_
    refine ⟨_, rfl, a, xs, rfl, .inr hs, _, rfl, (by omega), (by omega), ?_⟩
    refine for_range (lo := 0) (n := ((xs.length : Nat) : Int).toNat) (fun k σ H' => ∃ x1 x2 x3, σ = [some (.ref a), x1, x2, x3] ∧ H' = H) ?_ ?_ ?_
    · exact ⟨none, none, none, rfl, rfl⟩
    · rintro k σ H' hk ⟨x1, x2, x3, rfl, rfl⟩
      have hk' : k < R.length := by omega
      obtain ⟨a2, a3, ys, hx, t, ht, h2, h6, h7⟩ := term k hk'
      have htm := List.mem_of_getElem? ht
      have cm := hc.mono t htm
      have hat : atI xs (0 + (k : Int)) = some (.ref a2) := by rw [Int.zero_add]; exact atI_nat hx
      have E1 : ∀ {y2 y3 : Option V}, EvC (tOp (rIxT K) (tVar 0) (tVar 1)) [some (.ref a), some (.int (0 + (k : Int))), y2, y3] H' (.ref a2) := fun {y2 y3} => ec_ix (ec_var rfl) (ec_var rfl) hs hat
      refine if_stepN (evt_or (et_not (et_isi E1 (tyx_tup h2) (r := true) (by decide +kernel))) fun _ => evt_or (et_ne (ec_len E1 h2) ec_c rfl) fun _ => et_not (et_isi (ec_ix E1 ec_c h2 (i := 0) rfl) (tyx_tup h6) (r := true) (by decide +kernel))) (fun z => by simp at z) fun _ => ?_
      refine if_stepN (evt_or (et_not (et_isi (ec_ix E1 ec_c h2 (i := 1) rfl) tyx_int (r := true) (by decide +kernel))) fun _ => evt_or (et_isi (ec_ix E1 ec_c h2 (i := 1) rfl) tyx_int (r := false) (by decide +kernel)) fun _ => et_eq (ec_ix E1 ec_c h2 (i := 1) rfl) ec_c rfl) (fun z => by simp [hc.nz t htm] at z) fun _ => ?_
      refine ⟨_, rfl, _, rfl, a, xs, _, _, rfl, rfl, hs, hat, a2, _, _, _, rfl, rfl, h2, rfl, ?_⟩
      have hyl : ys.length = t.1.length := by have := h7.len; simpa using this
      have hml := hRl t htm
      refine ⟨_, rfl, a3, ys, rfl, .inr h6, _, rfl, (by omega), (by omega), ?_⟩
      refine for_range (lo := 0) (n := ((ys.length : Nat) : Int).toNat) (fun i σ H2 => ∃ y3, σ = [some (.ref a), some (.int (0 + (k : Int))), some (.ref a3), y3] ∧ H2 = H') ?_ ?_ ?_
      · exact ⟨_, rfl, rfl⟩
      · rintro i σ H2 hi ⟨y3, rfl, rfl⟩
        have pair : ∀ i : Nat, i < t.1.length → ∃ a4, ys[i]? = some (.ref a4) ∧ ∃ q, t.1[i]? = some q ∧ SqT K H2 a4 [.str q.1, .int q.2] := fun i hi => by
          have hq0 : t.1[i]? = some t.1[i] := List.getElem?_eq_getElem hi
          obtain ⟨x, hx, hd⟩ := h7.get (i := i) (d := encQ t.1[i]) (by rw [List.getElem?_map, hq0]; rfl)
          obtain ⟨a4, zs, rfl, g2, g3⟩ := hd.tupI
          obtain ⟨y, z, rfl, g4, g5⟩ := g3.two
          cases g4.strI
          cases g5.intI
          exact ⟨a4, hx, _, hq0, g2⟩
        have hi' : i < t.1.length := by omega
        obtain ⟨a4, hy, q, hq0, h8⟩ := pair i hi'
        have hat2 : atI ys (0 + (i : Int)) = some (.ref a4) := by rw [Int.zero_add]; exact atI_nat hy
        have hpos := cm.pos q (List.mem_of_getElem? hq0)
        have E2 : EvC (tOp (rIxT K) (tVar 2) (tVar 3)) [some (.ref a), some (.int (0 + (k : Int))), some (.ref a3), some (.int (0 + (i : Int)))] H2 (.ref a4) := ec_ix (ec_var rfl) (ec_var rfl) h6 hat2
        refine if_stepN (evt_or (et_not (et_isi E2 (tyx_tup h8) (r := true) (by decide +kernel))) fun _ => evt_or (et_ne (ec_len E2 h8) ec_c rfl) fun _ => et_not (et_isi (ec_ix E2 ec_c h8 (i := 0) rfl) tyx_str (r := true) (by decide +kernel))) (fun z => by simp at z) fun _ => ?_
        refine if_stepN (evt_or (et_not (et_isi (ec_ix E2 ec_c h8 (i := 1) rfl) tyx_int (r := true) (by decide +kernel))) fun _ => evt_or (et_isi (ec_ix E2 ec_c h8 (i := 1) rfl) tyx_int (r := false) (by decide +kernel)) fun _ => et_lt (ec_ix E2 ec_c h8 (i := 1) rfl) ec_c) (fun z => by simp at z; omega) fun _ => ?_
        have last : EvT (tAnd (tTest (tOp (rI0 fun i j => .bl (decide (j < i))) (tVar 3) (tC (.int 0)))) (tTest (tOp (rGeD K) (tOp (rIxT K) (tOp (rIxT K) (tVar 2) (tOp (rI0 fun i j => .int (i - j)) (tVar 3) (tC (.int 1)))) (tC (.int 0))) (tOp (rIxT K) (tOp (rIxT K) (tVar 2) (tVar 3)) (tC (.int 0)))))) [some (.ref a), some (.int (0 + (k : Int))), some (.ref a3), some (.int (0 + (i : Int)))] H2 (decide (0 < 0 + (i : Int)) && false) := by
          refine evt_and (et_gt (ec_var rfl) ec_c) fun hgt => ?_
          have hi1 : 0 < i := by have := of_decide_eq_true hgt; omega
          obtain ⟨a5, hy5, q5, hq5, h9⟩ := pair (i - 1) (by omega)
          have hat5 : atI ys (0 + (i : Int) - 1) = some (.ref a5) := by
            rw [show (0 + (i : Int) - 1) = ((i - 1 : Nat) : Int) by omega]
            exact atI_nat hy5
          refine et_geF (ec_ix (ec_ix (ec_var rfl) (ec_sub (ec_var rfl) ec_c) h6 hat5) ec_c h9 (i := 0) rfl) (ec_ix E2 ec_c h8 (i := 0) rfl) (.str _) (.str _) rfl (by simp) (by simp [PyData.depth]) ?_
          rw [PySem.W.dataLt_str]
          have hr := List.pairwise_iff_getElem.mp cm.rise (i - 1) i (by omega) hi' (by omega)
          rw [List.getElem?_eq_getElem (by omega)] at hq5 hq0
          cases hq5
          cases hq0
          exact decide_eq_true hr
        rw [Bool.and_false] at last
        exact last _ ⟨_, rfl, rfl⟩
      · rintro σ H2 ⟨y3, rfl, rfl⟩
        have last : EvT (tAnd (tTest (tOp (rI0 fun i j => .bl (decide (j < i))) (tVar 1) (tC (.int 0)))) (tTest (tOp (rGeD K) (tOp (rIxT K) (tOp (rIxT K) (tVar 0) (tOp (rI0 fun i j => .int (i - j)) (tVar 1) (tC (.int 1)))) (tC (.int 0))) (tVar 2)))) [some (.ref a), some (.int (0 + (k : Int))), some (.ref a3), y3] H2 (decide (0 < 0 + (k : Int)) && false) := by
          refine evt_and (et_gt (ec_var rfl) ec_c) fun hgt => ?_
          have hk1 : 0 < k := by have := of_decide_eq_true hgt; omega
          obtain ⟨a5, a6, zs, hy5, t5, ht5, h9, h10, h11⟩ := term (k - 1) (by omega)
          have hat5 : atI xs (0 + (k : Int) - 1) = some (.ref a5) := by
            rw [show (0 + (k : Int) - 1) = ((k - 1 : Nat) : Int) by omega]
            exact atI_nat hy5
          have hr := List.pairwise_iff_getElem.mp hc.rise (k - 1) k (by omega) hk' (by omega)
          refine et_geF (d := encM t5.1) (e := encM t.1) (ec_ix (ec_ix (ec_var rfl) (ec_sub (ec_var rfl) ec_c) hs hat5) ec_c h9 (i := 0) rfl) (ec_var rfl) (.tup h10 h11) (.tup h6 h7) (alikeM _ _) (by simp [encM]) (by have := depthM t5.1; omega) ?_
          rw [List.getElem?_eq_getElem (by omega)] at ht5 ht
          cases ht5
          cases ht
          exact hr
        rw [Bool.and_false] at last
        exact last _ ⟨_, _, _, rfl, rfl⟩
    · rintro σ H' ⟨x1, x2, x3, rfl, rfl⟩
      exact hq
end
end K03
set_option Elab.async false
set_option linter.all false
set_option maxRecDepth 100000
set_option maxHeartbeats 4000000
/-! at, alike, same -/
namespace K03
open PySem PySem.Spec PyProof.Rows L2
theorem mval_snoc (s : Str → Int) (q : Str × Int) : ∀ m : Mono, mval s (m ++ [q]) = mval s m * s q.1 ^ q.2.toNat
  | [] => by show s q.1 ^ q.2.toNat * 1 = 1 * _; rw [Int.mul_one, Int.one_mul]
  | p :: m => by
    show s p.1 ^ p.2.toNat * mval s (m ++ [q]) = s p.1 ^ p.2.toNat * mval s m * _
    rw [mval_snoc s q m, Int.mul_assoc]
def SpotAt (H : Hp) (a : Addr) (S : List Str) (s : Str → Int) : Prop := ∃ kvs, H a = some (.dK kvs) ∧ ∀ n ∈ S, valV kvs (.inr n) = some (.int (s n)) ∧ (s n).natAbs ≤ 4
/-- x == y of tuples of alike data -/
def rEqA (K : PySem.W.Frag) : R2 := fun x y H Q => ∃ ds es, Dp K H x (.tuple ds) ∧ Dp K H y (.tuple es) ∧ PySem.W.alikeAll ds es = true ∧ (PyData.tuple ds).depth ≤ 8 ∧ Q (.bl (PyData.eqvAll ds es)) H
theorem op_eqA {X : Cx} (hu : X.A.units + 64 < cLine) : OpR X (compareOp .Eq) (rEqA X.K) := by
  intro pins s σ H x y v u Q I rx ry h
  obtain ⟨ds, es, hd, he, al, dp, q⟩ := h
  obtain ⟨as, r1⟩ := Dp.reads I _ x v hd rx
  obtain ⟨bs, r2⟩ := Dp.reads I _ y u he ry
  have hdd : PyData.depthAll ds ≤ 8 := by simp only [PyData.depth] at dp; omega
  cases r1 with
  | @tuple l o vs n _ as₁ h1 h2 h3 h4 =>
    cases r2 with
    | @tuple l' o' vs' n' _ bs₁ k1 k2 k3 k4 =>
      have hl : s.heap.IsTuple l vs := ⟨_, h1, h2, _, h3⟩
      have hl' : s.heap.IsTuple l' vs' := ⟨_, k1, k2, _, k3⟩
      have n1 : vs.size = ds.length := by simpa using SeqAt.ReadsAll.length _ _ _ h4
      have n2 : vs'.size = es.length := by simpa using SeqAt.ReadsAll.length _ _ _ k4
      rw [← SeqAt.eqvAll_eq ds es, ← n1, ← n2] at q
      refine (SeqAt.RcAt.tuples hl hl' (by omega) fun j j1 j2 => ?_) X.prog X.w _ _ ⟨.bl _, H, I, rfl, q⟩
      have := PySem.W.eqAt_alikeAll ds es X.A.in1 s vs.toList vs'.toList _ _ h4 k4 al (by have := Nat.min_le_left (PyData.depthAll ds) (PyData.depthAll es); show X.A.units + 1 + _ < _; omega) j (by simpa using j1) (by simpa using j2)
      simpa using this
theorem alike_ps : ∀ p q : Poly, PySem.W.alikeAll (p.map encT) (q.map encT) = true
  | [], _ => by simp [PySem.W.alikeAll]
  | _ :: _, [] => by simp [PySem.W.alikeAll]
  | s :: p, t :: q => by
    rw [List.map_cons, List.map_cons, PySem.W.alikeAll, alikeT, alike_ps p q]
    rfl
theorem depthP (p : Poly) : (encP p).depth ≤ 4 := by
  have h : PyData.depthAll (p.map encT) ≤ 3 := by
    induction p with
    | nil => simp [PyData.depthAll]
    | cons t p ih =>
      have := depthT t
      simp only [List.map_cons, PyData.depthAll]
      omega
  simp only [encP, PyData.depth]
  omega
section
variable {P : Program} {w : World} {K : PySem.W.Frag} {mg : Str → Option Value} {base : Heap} {f f1 f2 f3 : Addr} {fd fd1 fd2 fd3 : FuncData}
def spAt (K : PySem.W.Frag) : Sp := fun vs H Q _ => ∃ (v : V) (a : Addr) (R : Poly) (S : List Str) (s : Str → Int), vs = [v, .ref a] ∧ PAt K H v R ∧ Over (· ∈ S) R ∧ SpotAt H a S s ∧ (∀ t ∈ R, ∀ q ∈ t.1, 0 ≤ q.2 ∧ q.2 < 2 ^ 60) ∧ Q (.int (pval s R)) H
abbrev nAt : List Str := ["_law_poly_here", "_law_spot", "_law_total", "_law_monomial", "_law_number", "_law_sign", "_law_exponent", "_law_turn"]
theorem scAt : FnScope nAt ["_law_poly_here", "_law_spot"] (defScope (top 35)) := ⟨rfl, rfl, rfl, by decide +kernel, rfl, by decide +kernel, by decide +kernel⟩
theorem ok_at (F : FnP K "_law_at" 35 f fd) (gR : mg "range" = none) : FnOk P w K mg base CX0 1 f fd ["_law_poly_here", "_law_spot"] (spAt K) := by
  have nd := scAt.nd
  refine F.ok scAt (fun vs H Q E h => ?_) (fun cdv A outer s H vs Q E hr h => ⟨_, PSs.nox (pss_cons (ps_set (i := 2) nd rfl (.inl rfl) pe_int)
    (pss_cons (ps_for PassesOwn.never rfl (pi_seq (pv 0)) (pg_seq rfl (pgs_cons (pg_name (i := 3) nd rfl (.inl rfl)) (pgs_cons (pg_name (i := 4) nd rfl (.inl rfl)) pgs_nil)))
      (pss_cons (ps_for PassesOwn.never rfl (pi_seq (pv 3)) (pg_seq rfl (pgs_cons (pg_name (i := 5) nd rfl (.inl rfl)) (pgs_cons (pg_name (i := 6) nd rfl (.inl rfl)) pgs_nil)))
        (pss_one (ps_for PassesOwn.never rfl (pi_range1 (by rfl) gR (pa_cons (pv 6) pa_nil)) (pg_name (i := 7) nd rfl (.inl rfl))
          (pss_one (ps_set (i := 4) nd rfl (.inl rfl) (pe_op op_mul (pv 4) (pe_dget (hu_of hr) (pv 1) (pv 5) (fun _ _ => rfl))))))))
      (pss_one (ps_set (i := 2) nd rfl (.inl rfl) (pe_op op_add (pv 2) (pv 4))))))
    (pss_one (ps_ret (pv 2))))), ?_⟩)
  · obtain ⟨v, a, R, S, s, rfl, _⟩ := h; rfl
  · obtain ⟨v, sp, R, S, s, rfl, ⟨a, xs, rfl, hsq, hps⟩, hov, hspot, hex, hq⟩ := h
    refine ⟨_, rfl, a, rfl, for_seq hsq (Keep.refl _) (fun i σ H' => ∃ x3 x4 x5 x6 x7, σ = [some (.ref a), some (.ref sp), some (.int (pval s (R.take i))), x3, x4, x5, x6, x7] ∧ H' = H) ?_ ?_ ?_ ?_⟩
    · exact fun _ => ⟨_, _, _, _, _, rfl, rfl⟩
    · rintro i σ H' ⟨_, _, _, _, _, _, rfl⟩
      exact Keep.refl _
    · rintro i x σ H' hz hi hx ⟨x3, x4, x5, x6, x7, rfl, rfl⟩
      obtain ⟨t, ht, a2, y, rfl, hs2, a3, ys, rfl, hs3, hm⟩ := paired_at hps hx
      refine ⟨a2, _, rfl, hs2, rfl, _, _, rfl, _, _, rfl, rfl, ?_⟩
      refine ⟨_, rfl, a3, rfl, for_seq hs3 (Keep.refl _) (fun j σ H2 => ∃ x5 x6 x7, σ = [some (.ref a), some (.ref sp), some (.int (pval s (R.take i))), some (.ref a3), some (.int (t.2 * mval s (t.1.take j))), x5, x6, x7] ∧ H2 = H') ?_ ?_ ?_ ?_⟩
      · refine fun _ => ⟨x5, x6, x7, ?_, rfl⟩
        show _ = [_, _, _, _, some (V.int (t.2 * 1)), _, _, _]
        rw [Int.mul_one]
        rfl
      · rintro j σ H2 ⟨_, _, _, _, rfl⟩
        exact Keep.refl _
      · rintro j z σ H2 hz2 hj hzj ⟨x5, x6, x7, rfl, rfl⟩
        obtain ⟨q, hq0, a4, rfl, hs4⟩ := paired_at hm hzj
        have hqm := List.mem_of_getElem? hq0
        have htm := List.mem_of_getElem? ht
        obtain ⟨b1, b2⟩ := hex t htm q hqm
        obtain ⟨kvs, hk, hg⟩ := hspot
        obtain ⟨g1, g2⟩ := hg q.1 (hov t htm q hqm)
        refine ⟨a4, _, rfl, hs4, rfl, _, _, rfl, _, _, rfl, rfl, ?_⟩
        refine ⟨_, rfl, q.2, rfl, (by omega), (by omega), ?_⟩
        refine for_range (lo := 0) (n := q.2.toNat) (fun k σ H3 => ∃ x7, σ = [some (.ref a), some (.ref sp), some (.int (pval s (R.take i))), some (.ref a3), some (.int (t.2 * mval s (t.1.take j) * s q.1 ^ k)), some (.str q.1), some (.int q.2), x7] ∧ H3 = H2) ?_ ?_ ?_
        · refine ⟨x7, ?_, rfl⟩
          rw [Int.pow_zero, Int.mul_one]
          rfl
        · rintro k σ H3 hk3 ⟨x7, rfl, rfl⟩
          refine ⟨_, rfl, _, rfl, _, rfl, sp, _, rfl, .inl ⟨_, .inr q.1, .inl hk, rfl, g1.symm⟩, _, _, rfl, rfl, .inr ⟨by omega, by omega⟩, some (.int (0 + (k : Int))), ?_, rfl⟩
          rw [Int.pow_succ, ← Int.mul_assoc]
          rfl
        · rintro σ H3 ⟨x7, rfl, rfl⟩
          refine ⟨some (.str q.1), some (.int q.2), x7, ?_, rfl⟩
          rw [take_at hq0, mval_snoc, ← Int.mul_assoc]
      · rintro σ H2 ⟨x5, x6, x7, rfl, rfl⟩
        refine ⟨_, rfl, _, rfl, _, _, rfl, rfl, some (.ref a3), some (.int (t.2 * mval s (t.1.take ys.length))), x5, x6, x7, ?_, rfl⟩
        have ep : pval s (R.take (i + 1)) = pval s (R.take i) + t.2 * mval s (t.1.take ys.length) := by
          unfold pval
          rw [take_at ht, ev_snoc, ← hm.length, List.take_length]
        rw [ep]
        rfl
    · rintro σ H' ⟨x3, x4, x5, x6, x7, rfl, rfl⟩
      refine ⟨_, rfl, ?_⟩
      rw [← hps.length, List.take_length]
      exact hq
def spAlike (K : PySem.W.Frag) : Sp := fun vs H Q _ => ∃ x y S E l n, vs = [x, y] ∧ Res K E x H ∧ Res K E y H ∧ Gd S E l n ∧ l ≤ 2000 ∧ S.length ≤ 1000 ∧ Q (.bl true) H
abbrev nAlike : List Str := ["_law_one", "_law_two"]
theorem scAlike : FnScope nAlike ["_law_one", "_law_two"] (defScope (top 36)) := ⟨rfl, rfl, rfl, by decide +kernel, rfl, by decide +kernel, by decide +kernel⟩
theorem ok_alike (F : FnP K "_law_alike" 36 f fd) (G : FnOk P w K mg base CX0 1 f1 fd1 ["_law_thing"] (spIs K)) (b1 : Binds K fd1 ["_law_thing"] []) (k1 : PySem.W.keepIn K (.ref f1) = true) (g1 : mg "_law_is_poly" = some (.ref f1)) :
    FnOk P w K mg base CX0 2 f fd ["_law_one", "_law_two"] (spAlike K) := by
  refine F.ok scAlike (fun vs H Q E h => ?_) (fun cdv A outer s H vs Q E hr h => ⟨_, PSs.nox (pss_one (ps_ret (pe_and (pe_call G hr (by rfl) g1 k1 b1 .nil pass0 (pa_cons (pv 0) pa_nil)) (pe_and (pe_call G hr (by rfl) g1 k1 b1 .nil pass0 (pa_cons (pv 1) pa_nil)) (pe_one (pe_cmpR (op_eqA hr.units) (pv 0) (pv 1) (nomark _))))))), ?_⟩)
  · obtain ⟨x, y, S, E, l, n, rfl, _⟩ := h; rfl
  · obtain ⟨x, y, S, E1, l, n, rfl, ⟨R1, h1, c1, e1⟩, ⟨R2, h2, c2, e2⟩, gd, hl, hS, hq⟩ := h
    have er : R1 = R2 := canonP_ext mlt_irr mlt_trans c1 c2 (e1.trans e2.symm)
    subst er
    have l1 := Nat.le_trans (len_le mlt_irr c1 e1) (Nat.le_trans gd.len hl)
    have l2 : ∀ t ∈ R1, t.1.length ≤ 1000 := fun t ht => Nat.le_trans (mono_len (c1.mono t ht) fun q hq => Over.of mlt_irr c1 e1 gd.ov t ht q hq) hS
    refine ⟨_, rfl, x, R1, rfl, h1, c1, l1, l2, true, rfl, _, rfl, y, R1, rfl, h2, c2, l1, l2, true, rfl, _, rfl, _, rfl, R1.map encT, R1.map encT, h1, h2, alike_ps _ _, by have := depthP R1; unfold encP at this; omega, ?_⟩
    rw [eqvPs.mpr rfl]
    exact hq
end
end K03
set_option Elab.async false
set_option linter.all false
set_option maxRecDepth 100000
set_option maxHeartbeats 4000000
/-! same -/
namespace K03
open PySem PySem.Spec PyProof.Rows L2
/-- what is compared: ints, texts, tuples of these, nested no deeper than n -/
inductive Smp : Nat → PyData → Prop
  | int (n : Nat) (i : Int) : Smp n (.int i)
  | str (n : Nat) (x : Str) : Smp n (.str x)
  | tup (n : Nat) (ds : List PyData) (h : ds.length ≤ 2000) (hd : ∀ (i : Nat) (d : PyData), ds[i]? = some d → Smp n d) : Smp (n + 1) (.tuple ds)
section
variable {K : PySem.W.Frag} {σ : L2.St} {H : Hp}
theorem ec_isi {te : TE} {x : V} {a b : String} {r : Bool} (h : EvC te σ H x) (ty : TyX K H x (.type a)) (hk : kitB a b = some r) : EvC (tCB (rIsi K) (tCons te (tCons (tC (.ty b)) tNil))) σ H (.bl r) := fun Q q => h _ ⟨x, .ty b, .type a, .type b, r, rfl, .ty b, ty, kit_ty hk, q⟩
theorem et_b {te : TE} {r : Bool} (h : EvC te σ H (.bl r)) : EvT (tB te) σ H r := fun Q q => h _ ⟨r, rfl, q⟩
theorem et_isN {ta : TE} {x : V} (h : EvC ta σ H x) : EvT (tTest (tOp (fun x y H Q => y = .non ∧ Q (.bl (decide (x = .non))) H) ta (tC .non))) σ H (decide (x = .non)) := fun Q q => h _ ⟨rfl, _, rfl, q⟩
end
section
variable {P : Program} {w : World} {K : PySem.W.Frag} {mg : Str → Option Value} {base : Heap} {f f1 f2 f3 : Addr} {fd fd1 fd2 fd3 : FuncData}
def spSame (K : PySem.W.Frag) (n : Nat) : Sp := fun vs H Q _ => ∃ x y d, vs = [x, y] ∧ Dp K H x d ∧ Dp K H y d ∧ Smp n d ∧ Q (.bl true) H
abbrev nSame : List Str := ["_law_actual", "_law_due", "_law_k"]
theorem scSame : FnScope nSame ["_law_actual", "_law_due"] (defScope (top 28)) := ⟨rfl, rfl, rfl, by decide +kernel, rfl, by decide +kernel, by decide +kernel⟩
theorem same_tail {X : Cx} : True := trivial
theorem ok_same0 (F : FnP K "_law_same" 28 f fd) (gI : mg "isinstance" = none) (gT : mg "tuple" = none) (gLi : mg "list" = none) (gN : mg "int" = none) (gB : mg "bool" = none) (gS : mg "str" = none) : FnOk P w K mg base CX0 1 f fd ["_law_actual", "_law_due"] (spSame K 0) := by
  have nd := scSame.nd
  have bI : bootBuiltins "isinstance" = some (.builtin "isinstance") := by decide +kernel
  have bT : bootBuiltins "tuple" = some (.type "tuple") := PyProof.Rows.boot_tuple
  have bL : bootBuiltins "list" = some (.type "list") := PyProof.Rows.boot_list
  have bN : bootBuiltins "int" = some (.type "int") := by decide +kernel
  have bB : bootBuiltins "bool" = some (.type "bool") := by decide +kernel
  have bS : bootBuiltins "str" = some (.type "str") := by decide +kernel
  refine F.ok scSame (fun vs H Q E h => ?_) (fun cdv A outer s H vs Q E hr h => ⟨_, PSs.nox (pss_cons (ps_if (PW.pt (pw_or (pt_val (pe_callB call_isi (by rfl) gI bI (pa_cons (pv 1) (pa_cons (pe_bltn (v := .ty "tuple") (by rfl) gT bT rfl) pa_nil)))) (pw_or1 (pt_val (pe_callB call_isi (by rfl) gI bI (pa_cons (pv 1) (pa_cons (pe_bltn (v := .ty "list") (by rfl) gLi bL rfl) pa_nil)))))))
      (pss_cons ps_never (pss_cons ps_never (pss_cons ps_never (pss_one ps_never)))) pss_nil)
    (pss_cons (ps_if (pt_cmpR op_isN (pv 1) pe_non (nomark _)) (pss_one ps_never) pss_nil)
    (pss_cons (ps_if (pt_val (pe_callB call_isi (by rfl) gI bI (pa_cons (pv 1) (pa_cons (pe_bltn (v := .ty "bool") (by rfl) gB bB rfl) pa_nil)))) (pss_one ps_never) pss_nil)
    (pss_cons (ps_if (pt_val (pe_callB call_isi (by rfl) gI bI (pa_cons (pv 1) (pa_cons (pe_bltn (v := .ty "str") (by rfl) gS bS rfl) pa_nil)))) (pss_one (ps_ret (pe_and (pe_callB call_isi (by rfl) gI bI (pa_cons (pv 0) (pa_cons (pe_bltn (v := .ty "str") (by rfl) gS bS rfl) pa_nil))) (pe_one (pe_cmpR op_eq (pv 0) (pv 1) (nomark _)))))) pss_nil)
    (pss_one (ps_ret (pe_and (pe_callB call_isi (by rfl) gI bI (pa_cons (pv 0) (pa_cons (pe_bltn (v := .ty "int") (by rfl) gN bN rfl) pa_nil))) (pe_and (pe_not (pe_callB call_isi (by rfl) gI bI (pa_cons (pv 0) (pa_cons (pe_bltn (v := .ty "bool") (by rfl) gB bB rfl) pa_nil)))) (pe_one (pe_cmpR op_eq (pv 0) (pv 1) (nomark _))))))))))), ?_⟩)
  · obtain ⟨x, y, d, rfl, _⟩ := h; rfl
  · obtain ⟨x, y, d, rfl, hx, hy, hs, hq⟩ := h
    cases hs with
    | int _ i =>
      cases hx.intI
      cases hy.intI
      refine if_stepN (evt_or (et_isi (ec_var rfl) tyx_int (r := false) (by decide +kernel)) fun _ => et_isi (ec_var rfl) tyx_int (r := false) (by decide +kernel)) (fun z => by cases z) fun _ => ?_
      refine if_stepN (et_isN (ec_var rfl)) (fun z => by simp at z) fun _ => ?_
      refine if_stepN (et_isi (ec_var rfl) tyx_int (r := false) (by decide +kernel)) (fun z => by cases z) fun _ => ?_
      refine if_stepN (et_isi (ec_var rfl) tyx_int (r := false) (by decide +kernel)) (fun z => by cases z) fun _ => ?_
      refine ec_isi (a := "int") (b := "int") (r := true) (ec_var rfl) tyx_int (by decide +kernel) _ ⟨true, rfl, ?_⟩
      refine ec_isi (a := "int") (b := "bool") (r := false) (ec_var rfl) tyx_int (by decide +kernel) _ ⟨false, rfl, true, rfl, ?_⟩
      refine ⟨_, rfl, _, rfl, rfl, ?_⟩
      rw [decide_eq_true rfl]
      exact hq
    | str _ i =>
      cases hx.strI
      cases hy.strI
      refine if_stepN (evt_or (et_isi (ec_var rfl) tyx_str (r := false) (by decide +kernel)) fun _ => et_isi (ec_var rfl) tyx_str (r := false) (by decide +kernel)) (fun z => by cases z) fun _ => ?_
      refine if_stepN (et_isN (ec_var rfl)) (fun z => by simp at z) fun _ => ?_
      refine if_stepN (et_isi (ec_var rfl) tyx_str (r := false) (by decide +kernel)) (fun z => by cases z) fun _ => ?_
      refine if_stepN (et_isi (ec_var rfl) tyx_str (r := true) (by decide +kernel)) (fun _ => ?_) fun z => by cases z
      refine ec_isi (a := "str") (b := "str") (r := true) (ec_var rfl) tyx_str (by decide +kernel) _ ⟨true, rfl, ?_⟩
      refine ⟨_, rfl, _, rfl, rfl, ?_⟩
      rw [decide_eq_true rfl]
      exact hq
theorem ok_same (F : FnP K "_law_same" 28 f fd) (gI : mg "isinstance" = none) (gT : mg "tuple" = none) (gLi : mg "list" = none) (gN : mg "int" = none) (gB : mg "bool" = none) (gS : mg "str" = none) (gL : mg "len" = none) (gR : mg "range" = none) (b1 : Binds K fd ["_law_actual", "_law_due"] []) (k1 : PySem.W.keepIn K (.ref f) = true) (g1 : mg "_law_same" = some (.ref f)) :
    ∀ n, FnOk P w K mg base CX0 (n + 1) f fd ["_law_actual", "_law_due"] (spSame K n)
  | 0 => ok_same0 F gI gT gLi gN gB gS
  | n + 1 => by
    have G : FnOk P w K mg base CX0 (n + 1) f fd ["_law_actual", "_law_due"] (spSame K n) := ok_same F gI gT gLi gN gB gS gL gR b1 k1 g1 n
    have nd := scSame.nd
    have bI : bootBuiltins "isinstance" = some (.builtin "isinstance") := by decide +kernel
    have bT : bootBuiltins "tuple" = some (.type "tuple") := PyProof.Rows.boot_tuple
    have bL : bootBuiltins "list" = some (.type "list") := PyProof.Rows.boot_list
    have bN : bootBuiltins "int" = some (.type "int") := by decide +kernel
    have bB : bootBuiltins "bool" = some (.type "bool") := by decide +kernel
    have bS : bootBuiltins "str" = some (.type "str") := by decide +kernel
    refine F.ok scSame (fun vs H Q E h => ?_) (fun cdv A outer s H vs Q E hr h => ⟨_, PSs.nox (pss_cons (ps_if (PW.pt (pw_or (pt_val (pe_callB call_isi (by rfl) gI bI (pa_cons (pv 1) (pa_cons (pe_bltn (v := .ty "tuple") (by rfl) gT bT rfl) pa_nil)))) (pw_or1 (pt_val (pe_callB call_isi (by rfl) gI bI (pa_cons (pv 1) (pa_cons (pe_bltn (v := .ty "list") (by rfl) gLi bL rfl) pa_nil)))))))
        (pss_cons (ps_if (PW.pt (pw_or (pt_cmpR op_ne (pe_callB call_isi (by rfl) gI bI (pa_cons (pv 1) (pa_cons (pe_bltn (v := .ty "tuple") (by rfl) gT bT rfl) pa_nil))) (pe_callB call_isi (by rfl) gI bI (pa_cons (pv 0) (pa_cons (pe_bltn (v := .ty "tuple") (by rfl) gT bT rfl) pa_nil))) (nomark _))
          (pw_or1 (pt_cmpR op_ne (pe_callB call_isi (by rfl) gI bI (pa_cons (pv 1) (pa_cons (pe_bltn (v := .ty "list") (by rfl) gLi bL rfl) pa_nil))) (pe_callB call_isi (by rfl) gI bI (pa_cons (pv 0) (pa_cons (pe_bltn (v := .ty "list") (by rfl) gLi bL rfl) pa_nil))) (nomark _))))) (pss_one ps_never) pss_nil)
        (pss_cons (ps_if (pt_cmpR op_ne (pe_callB call_len_seq (by rfl) gL boot_len (pa_cons (pv 0) pa_nil)) (pe_callB call_len_seq (by rfl) gL boot_len (pa_cons (pv 1) pa_nil)) (nomark _)) (pss_one ps_never) pss_nil)
        (pss_cons (ps_for PassesOwn.never rfl (pi_range1 (by rfl) gR (pa_cons (pe_callB call_len_seq (by rfl) gL boot_len (pa_cons (pv 1) pa_nil)) pa_nil)) (pg_name (i := 2) nd rfl (.inl rfl))
          (pss_one (ps_if (pt_not (pt_val (pe_call G hr (by rfl) g1 k1 b1 .nil pass0 (pa_cons (pe_ix ix_tup (pv 0) (pv 2) (fun _ _ => rfl)) (pa_cons (pe_ix ix_tup (pv 1) (pv 2) (fun _ _ => rfl)) pa_nil))))) (pss_one ps_never) pss_nil)))
        (pss_one (ps_ret pe_bl))))) pss_nil)
      (pss_cons (ps_if (pt_cmpR op_isN (pv 1) pe_non (nomark _)) (pss_one ps_never) pss_nil)
      (pss_cons (ps_if (pt_val (pe_callB call_isi (by rfl) gI bI (pa_cons (pv 1) (pa_cons (pe_bltn (v := .ty "bool") (by rfl) gB bB rfl) pa_nil)))) (pss_one ps_never) pss_nil)
      (pss_cons (ps_if (pt_val (pe_callB call_isi (by rfl) gI bI (pa_cons (pv 1) (pa_cons (pe_bltn (v := .ty "str") (by rfl) gS bS rfl) pa_nil)))) (pss_one (ps_ret (pe_and (pe_callB call_isi (by rfl) gI bI (pa_cons (pv 0) (pa_cons (pe_bltn (v := .ty "str") (by rfl) gS bS rfl) pa_nil))) (pe_one (pe_cmpR op_eq (pv 0) (pv 1) (nomark _)))))) pss_nil)
      (pss_one (ps_ret (pe_and (pe_callB call_isi (by rfl) gI bI (pa_cons (pv 0) (pa_cons (pe_bltn (v := .ty "int") (by rfl) gN bN rfl) pa_nil))) (pe_and (pe_not (pe_callB call_isi (by rfl) gI bI (pa_cons (pv 0) (pa_cons (pe_bltn (v := .ty "bool") (by rfl) gB bB rfl) pa_nil)))) (pe_one (pe_cmpR op_eq (pv 0) (pv 1) (nomark _))))))))))), ?_⟩)
    · obtain ⟨x, y, d, rfl, _⟩ := h; rfl
    · obtain ⟨x, y, d, rfl, hx, hy, hs, hq⟩ := h
      cases hs with
      | int _ i =>
        cases hx.intI
        cases hy.intI
        refine if_stepN (evt_or (et_isi (ec_var rfl) tyx_int (r := false) (by decide +kernel)) fun _ => et_isi (ec_var rfl) tyx_int (r := false) (by decide +kernel)) (fun z => by cases z) fun _ => ?_
        refine if_stepN (et_isN (ec_var rfl)) (fun z => by simp at z) fun _ => ?_
        refine if_stepN (et_isi (ec_var rfl) tyx_int (r := false) (by decide +kernel)) (fun z => by cases z) fun _ => ?_
        refine if_stepN (et_isi (ec_var rfl) tyx_int (r := false) (by decide +kernel)) (fun z => by cases z) fun _ => ?_
        refine ec_isi (a := "int") (b := "int") (r := true) (ec_var rfl) tyx_int (by decide +kernel) _ ⟨true, rfl, ?_⟩
        refine ec_isi (a := "int") (b := "bool") (r := false) (ec_var rfl) tyx_int (by decide +kernel) _ ⟨false, rfl, true, rfl, ?_⟩
        refine ⟨_, rfl, _, rfl, rfl, ?_⟩
        rw [decide_eq_true rfl]
        exact hq
      | str _ i =>
        cases hx.strI
        cases hy.strI
        refine if_stepN (evt_or (et_isi (ec_var rfl) tyx_str (r := false) (by decide +kernel)) fun _ => et_isi (ec_var rfl) tyx_str (r := false) (by decide +kernel)) (fun z => by cases z) fun _ => ?_
        refine if_stepN (et_isN (ec_var rfl)) (fun z => by simp at z) fun _ => ?_
        refine if_stepN (et_isi (ec_var rfl) tyx_str (r := false) (by decide +kernel)) (fun z => by cases z) fun _ => ?_
        refine if_stepN (et_isi (ec_var rfl) tyx_str (r := true) (by decide +kernel)) (fun _ => ?_) fun z => by cases z
        refine ec_isi (a := "str") (b := "str") (r := true) (ec_var rfl) tyx_str (by decide +kernel) _ ⟨true, rfl, ?_⟩
        refine ⟨_, rfl, _, rfl, rfl, ?_⟩
        rw [decide_eq_true rfl]
        exact hq
      | tup _ ds hl hd =>
        obtain ⟨a, xs, rfl, hsx, hax⟩ := hx.tupI
        obtain ⟨b, ys, rfl, hsy, hay⟩ := hy.tupI
        have lx := hax.len
        have ly := hay.len
        refine if_stepN (evt_or (a := true) (b := false) (et_isi (ec_var rfl) (tyx_tup hsy) (by decide +kernel)) fun z => by cases z) (fun _ => ?_) fun z => by cases z
        refine if_stepN (evt_or (et_ne (ec_isi (ec_var rfl) (tyx_tup hsy) (r := true) (by decide +kernel)) (ec_isi (ec_var rfl) (tyx_tup hsx) (r := true) (by decide +kernel)) rfl) fun _ => et_ne (ec_isi (ec_var rfl) (tyx_tup hsy) (r := false) (by decide +kernel)) (ec_isi (ec_var rfl) (tyx_tup hsx) (r := false) (by decide +kernel)) rfl) (fun z => by simp at z) fun _ => ?_
        refine if_stepN (et_ne (ec_len (ec_var rfl) hsx) (ec_len (ec_var rfl) hsy) rfl) (fun z => by simp [lx, ly] at z) fun _ => ?_
        refine ⟨_, rfl, b, ys, rfl, .inr hsy, _, rfl, (by omega), (by omega), ?_⟩
        refine for_range (lo := 0) (n := ((ys.length : Nat) : Int).toNat) (fun k σ H' => ∃ x2, σ = [some (.ref a), some (.ref b), x2] ∧ H' = H) ?_ ?_ ?_
        · exact ⟨none, rfl, rfl⟩
        · rintro k σ H' hk ⟨x2, rfl, rfl⟩
          have hk' : k < ds.length := by omega
          have hdk : ds[k]? = some ds[k] := List.getElem?_eq_getElem hk'
          obtain ⟨u, hu, du⟩ := hax.get hdk
          obtain ⟨v, hv, dv⟩ := hay.get hdk
          have au : atI xs (0 + (k : Int)) = some u := by rw [Int.zero_add]; exact atI_nat hu
          have av : atI ys (0 + (k : Int)) = some v := by rw [Int.zero_add]; exact atI_nat hv
          refine ⟨_, rfl, _, rfl, a, xs, _, u, rfl, rfl, hsx, au, _, rfl, _, rfl, b, ys, _, v, rfl, rfl, hsy, av, u, v, _, rfl, du, dv, hd k _ hdk, true, rfl, ?_⟩
          exact ⟨_, rfl, rfl⟩
        · rintro σ H' ⟨x2, rfl, rfl⟩
          exact hq
end
end K03
set_option Elab.async false
set_option linter.all false
set_option maxRecDepth 100000
set_option maxHeartbeats 4000000
/-! values of nested calls; the law's sums -/
namespace K03
open PySem PySem.Spec PyProof.Rows L2
theorem _root_.L2.FunD.kbn {K : PySem.W.Frag} {x qual : Str} {params : Arguments} {body : List Stmt} {scope : Scope} {kws : List (Str × V)} {f : Addr} {fd : FuncData} {ps ks : List Str} {n : Nat} {g : List Value → List Value → List Value} {gV : List V → List V → List V} (F : FunD K x qual params body scope [] kws f fd)
    (h : ∀ (kV doc pm : Value) (an : Option Addr) (cdv ct : Value) (us ws : List Value), us.length = n → ws.length = ks.length → bindArgs (PySem.W.fnOf x qual params body scope .none kV doc pm an cdv ct) ⟨us, ks.zip ws⟩ = pure (ps.zip (g us ws)))
    (hr : ∀ {vs : List V} {us : List Value} {zs : List V} {ws : List Value}, Vals vs us → Vals zs ws → Vals (gV vs zs) (g us ws)) : KBn K fd ps n ks g gV := by
  obtain ⟨oc, od, dV, kV, doc, pm, an, cdv, ct, osl, rfl, lk, hcd, hD, hK⟩ := F.ex
  rcases hD with ⟨_, rfl⟩ | ⟨e, _⟩
  · exact ⟨fun s us ws _ l1 l2 => .of_eq (h kV doc pm an cdv ct us ws l1 l2), hr⟩
  · exact absurd rfl e
/-- a def as its callers know it -/
structure FnC (P : Program) (w : World) (K : PySem.W.Frag) (mg : Str → Option Value) (base : Heap) (x : Str) (ps : List Str) (k : Nat) (sp : Sp) where
  f : Addr
  fd : FuncData
  ok : FnOk P w K mg base CX0 k f fd ps sp
  b : Binds K fd ps []
  kp : PySem.W.keepIn K (.ref f) = true
  g : mg x = some (.ref f)
/-- two written, turned about -/
def g10 {α : Type} : List α → List α → List α
  | [], [x, y] => [y, x]
  | us, ws => us ++ ws
def g1 {α : Type} : List α → List α → List α := fun us ws => us ++ ws
theorem vals_app {vs : List V} {us : List Value} {zs : List V} {ws : List Value} (r : Vals vs us) (r' : Vals zs ws) : Vals (vs ++ zs) (us ++ ws) := by
  induction r with
  | nil => exact r'
  | cons h _ ih => exact .cons h ih
theorem g10_rel {vs : List V} {us : List Value} {zs : List V} {ws : List Value} (r : Vals vs us) (r' : Vals zs ws) : Vals (g10 vs zs) (g10 us ws) := by
  cases r with
  | nil =>
    cases r' with
    | nil => exact .nil
    | cons h1 t1 =>
      cases t1 with
      | nil => exact .cons h1 .nil
      | cons h2 t2 =>
        cases t2 with
        | nil => exact .cons h2 (.cons h1 .nil)
        | cons h3 t3 => exact .cons h1 (.cons h2 (.cons h3 t3))
  | cons h t => exact vals_app (.cons h t) r'
theorem g1_rel {vs : List V} {us : List Value} {zs : List V} {ws : List Value} (r : Vals vs us) (r' : Vals zs ws) : Vals (g1 vs zs) (g1 us ws) := vals_app r r'
/-- from H on, with draws between: the value has Φ -/
def EvR (K : PySem.W.Frag) (T : Tp) (te : TE) (σ : L2.St) (H : Hp) (Φ : V → Hp → Prop) : Prop := ∀ H1, Dr K T H H1 → ∀ Q : VK, (∀ v H2, Dr K T H1 H2 → Φ v H2 → Q v H2) → te σ H1 Q
def EvB (K : PySem.W.Frag) (T : Tp) (tt : TT) (σ : L2.St) (H : Hp) (b : Bool) : Prop := ∀ H1, Dr K T H H1 → ∀ Q : Bool → Hp → Prop, (∀ H2, Dr K T H1 H2 → Q b H2) → tt σ H1 Q
def Stay (K : PySem.W.Frag) (T : Tp) (Φ : V → Hp → Prop) : Prop := ∀ v H H', Φ v H → Dr K T H H' → Φ v H'
section
variable {K : PySem.W.Frag} {T : Tp} {σ : L2.St} {H : Hp} {E F E1 E2 : Poly}
theorem stay_res : Stay K T (Res K E) := fun _ _ _ h d => h.keep d.2.1
theorem stay_resH : Stay K T (ResH K E) := fun _ _ _ h d => h.keep d.2.1
theorem er_var {i : Nat} {v : V} {Φ : V → Hp → Prop} (h : σ[i]? = some (some v)) (hp : Φ v H) (st : Stay K T Φ) : EvR K T (tVar i) σ H Φ := fun H1 d Q q => ⟨v, h, q v H1 (Dr.refl d.2.2) (st v H H1 hp d)⟩
theorem er_c {v : V} {Φ : V → Hp → Prop} (hp : ∀ H, Φ v H) : EvR K T (tC v) σ H Φ := fun H1 d Q q => q v H1 (Dr.refl d.2.2) (hp H1)
theorem er_mono {te : TE} {Φ Ψ : V → Hp → Prop} (h : EvR K T te σ H Φ) (f : ∀ v H, Φ v H → Ψ v H) : EvR K T te σ H Ψ := fun H1 d Q q => h H1 d Q fun v H2 d2 p => q v H2 d2 (f v H2 p)
theorem er_h {te : TE} (h : EvR K T te σ H (Res K E)) : EvR K T te σ H (ResH K E) := er_mono h fun _ _ z => z.h
theorem er_call1 {sp : Sp} {ta : TE} {Φa Φ : V → Hp → Prop} (ha : EvR K T ta σ H Φa) (hsp : ∀ x H1 (Q : VK), Tape K T H1 → Φa x H1 → (∀ v H2, Dr K T H1 H2 → Φ v H2 → Q v H2) → sp [x] H1 Q E0) : EvR K T (tCall sp [] E0 (tCons ta tNil)) σ H Φ :=
  fun H1 d Q q => ha H1 d _ fun x H2 d2 p => hsp x H2 Q d2.2.2 p fun v H3 d3 r => q v H3 (d2.trans d3) r
theorem er_call2 {sp : Sp} {ta tb : TE} {Φa Φb Φ : V → Hp → Prop} (ha : EvR K T ta σ H Φa) (hb : EvR K T tb σ H Φb) (st : Stay K T Φa) (hsp : ∀ x y H1 (Q : VK), Tape K T H1 → Φa x H1 → Φb y H1 → (∀ v H2, Dr K T H1 H2 → Φ v H2 → Q v H2) → sp [x, y] H1 Q E0) : EvR K T (tCall sp [] E0 (tCons ta (tCons tb tNil))) σ H Φ :=
  fun H1 d Q q => ha H1 d _ fun x H2 d2 p => hb H2 (d.trans d2) _ fun y H3 d3 r => hsp x y H3 Q d3.2.2 (st x H2 H3 p d3) r fun v H4 d4 s => q v H4 ((d2.trans d3).trans d4) s
/-- f(q = .., p = ..) -/
theorem er_call2K {sp : Sp} {ta tb : TE} {Φa Φb Φ : V → Hp → Prop} (ha : EvR K T ta σ H Φa) (hb : EvR K T tb σ H Φb) (st : Stay K T Φa) (hsp : ∀ x y H1 (Q : VK), Tape K T H1 → Φa x H1 → Φb y H1 → (∀ v H2, Dr K T H1 H2 → Φ v H2 → Q v H2) → sp [y, x] H1 Q E0) : EvR K T (tCallN 0 2 sp g10 E0 tNil (tCons ta (tCons tb tNil))) σ H Φ :=
  fun H1 d Q q => ha H1 d _ fun x H2 d2 p => hb H2 (d.trans d2) _ fun y H3 d3 r => ⟨rfl, rfl, hsp x y H3 Q d3.2.2 (st x H2 H3 p d3) r fun v H4 d4 s => q v H4 ((d2.trans d3).trans d4) s⟩
theorem er_call1K {sp : Sp} {ta : TE} {Φa Φ : V → Hp → Prop} (ha : EvR K T ta σ H Φa) (hsp : ∀ x H1 (Q : VK), Tape K T H1 → Φa x H1 → (∀ v H2, Dr K T H1 H2 → Φ v H2 → Q v H2) → sp [x] H1 Q E0) : EvR K T (tCallN 0 1 sp g1 E0 tNil (tCons ta tNil)) σ H Φ :=
  fun H1 d Q q => ha H1 d _ fun x H2 d2 p => ⟨rfl, rfl, hsp x H2 Q d2.2.2 p fun v H3 d3 r => q v H3 (d2.trans d3) r⟩
/-- () -/
theorem er_nil : EvR K T (tTup tNil) σ H (Res K []) := fun H1 d Q q => ⟨Nat.zero_le _, fun p hp => q _ _ (.of d.2.2 (same_new hp)) ⟨[], Dp.newTup upd_same .nil, canonP_nil, .refl _⟩⟩
theorem sp_add {S : List Str} {l1 n1 l2 n2 : Nat} (sg : Poly → Poly) (g1 : Gd S E1 l1 n1) (g2 : Gd S E2 l2 n2) (hl : l1 + l2 ≤ 2000) (hn : n1 + n2 < 10 ^ 200) : ∀ x y H1 (Q : VK), Tape K T H1 → ResH K E1 x H1 → ResH K E2 y H1 → (∀ v H2, Dr K T H1 H2 → Res K (E1 ++ sg E2) v H2 → Q v H2) → spAdd K sg [x, y] H1 Q E0 :=
  fun x y H1 Q t h1 h2 q => ⟨x, y, S, E1, E2, l1, n1, l2, n2, rfl, h1, h2, g1, g2, hl, hn, fun v H' e r => q v H' (.of t e) r⟩
theorem sp_mul {S : List Str} {l1 n1 l2 n2 : Nat} (g1 : Gd S E1 l1 n1) (g2 : Gd S E2 l2 n2) (hS : S.length ≤ 1000) (hl : l1 * l2 ≤ 2000) (hn : n1 * n2 < 10 ^ 200) (h1 : n1 < 2 ^ 3000) (h2 : n2 < 2 ^ 3000) : ∀ x y H1 (Q : VK), Tape K T H1 → ResH K E1 x H1 → ResH K E2 y H1 → (∀ v H2, Dr K T H1 H2 → Res K (rmul E1 E2) v H2 → Q v H2) → spMul K [x, y] H1 Q E0 :=
  fun x y H1 Q t k1 k2 q => ⟨x, y, S, E1, E2, l1, n1, l2, n2, rfl, k1, k2, g1, g2, hS, hl, hn, h1, h2, fun v H' e r => q v H' (.of t e) r⟩
theorem er_const {c : Int} {tc : TE} (h : EvR K T tc σ H fun v _ => v = .int c) (hc : c.natAbs < 10 ^ 200) : EvR K T (tCall (spConst K) [] E0 (tCons tc tNil)) σ H (Res K [([], c)]) :=
  er_call1 h fun x H1 Q t p q => ⟨c, by rw [p], hc, fun v H' e r => q v H' (.of t e) r⟩
theorem er_constK {c : Int} {tc : TE} (h : EvR K T tc σ H fun v _ => v = .int c) (hc : c.natAbs < 10 ^ 200) : EvR K T (tCallN 0 1 (spConst K) g1 E0 tNil (tCons tc tNil)) σ H (Res K [([], c)]) :=
  er_call1K h fun x H1 Q t p q => ⟨c, by rw [p], hc, fun v H' e r => q v H' (.of t e) r⟩
theorem er_neg1 : EvR K T (tUn (rU fun i => .int (-i)) (tC (.int 1))) σ H fun v _ => v = .int (-1) := fun H1 d Q q => ⟨1, rfl, q _ H1 (Dr.refl d.2.2) rfl⟩
theorem er_int (c : Int) : EvR K T (tC (.int c)) σ H fun v _ => v = .int c := er_c fun _ => rfl
theorem er_handed {i : Nat} {v : V} (h0 : σ[0]? = some (some (.ref T.t))) (hi : σ[i]? = some (some v)) (hv : ResH K E v H) : EvR K T (tCall (spHanded K) [] E0 (tCons (tVar 0) (tCons (tVar i) tNil))) σ H (ResH K E) :=
  fun H1 d Q q => by
    obtain ⟨R, p, c⟩ := hv.keep d.2.1
    exact ⟨_, h0, v, hi, T, v, R, rfl, d.2.2, p, fun v' H' d' p' => q v' H' d' ⟨R, p', c⟩⟩
theorem eb_alike {ta tb : TE} {S : List Str} {l n : Nat} (ha : EvR K T ta σ H (Res K E1)) (hb : EvR K T tb σ H (Res K E2)) (e : Eqv E2 E1) (g : Gd S E1 l n) (hl : l ≤ 2000) (hS : S.length ≤ 1000) : EvR K T (tCall (spAlike K) [] E0 (tCons ta (tCons tb tNil))) σ H fun v _ => v = .bl true :=
  er_call2 ha hb stay_res fun x y H1 Q t p r q => ⟨x, y, S, E1, l, n, rfl, p, r.eqv e, g, hl, hS, q _ H1 (Dr.refl t) rfl⟩
theorem eb_not {te : TE} (h : EvR K T te σ H fun v _ => v = .bl true) : EvB K T (tNot (tB te)) σ H false := fun H1 d Q q => h H1 d _ fun v H2 d2 e => ⟨true, e, q H2 d2⟩
theorem eb_or {t u : TT} (h1 : EvB K T t σ H false) (h2 : EvB K T u σ H false) : EvB K T (tOr t u) σ H false := fun H1 d Q q => h1 H1 d _ fun H2 d2 => h2 H2 (d.trans d2) Q fun H3 d3 => q H3 (d2.trans d3)
theorem er_and {ta tb : TE} (h1 : EvR K T ta σ H fun v _ => v = .bl true) (h2 : EvR K T tb σ H fun v _ => v = .bl true) : EvR K T (tAndV ta tb) σ H fun v _ => v = .bl true :=
  fun H1 d Q q => h1 H1 d _ fun v H2 d2 e => ⟨true, e, h2 H2 (d.trans d2) Q fun v H3 d3 e3 => q v H3 (d2.trans d3) e3⟩
theorem skip_if {c : TT} {a rest : TS} {D : Ends} {H1 : Hp} (h : EvB K T c σ H false) (d : Dr K T H H1) (k : ∀ H2, Dr K T H1 H2 → rest D σ H2) : tSeq (tIfS c a tNext) rest D σ H1 := h H1 d _ fun H2 d2 => k H2 d2
theorem set_er {te : TE} {i : Nat} {rest : TS} {D : Ends} {H1 : Hp} {Φ : V → Hp → Prop} (h : EvR K T te σ H Φ) (d : Dr K T H H1) (k : ∀ v H2, Dr K T H1 H2 → Φ v H2 → rest D (σ.set i (some v)) H2) : tSeq (tAsg te (gName i)) rest D σ H1 := h H1 d _ fun v H2 d2 p => k v H2 d2 p
theorem ret_er {te : TE} {D : Ends} {H1 : Hp} {Φ : V → Hp → Prop} (h : EvR K T te σ H Φ) (d : Dr K T H H1) (k : ∀ v H2, Dr K T H1 H2 → Φ v H2 → D.rt v H2) : tRet te D σ H1 := h H1 d _ fun v H2 d2 p => k v H2 d2 p
end
end K03
set_option Elab.async false
set_option linter.all false
set_option maxRecDepth 100000
set_option maxHeartbeats 4000000
/-! sums -/
namespace K03
open PySem PySem.Spec PyProof.Rows L2
/-- the ring's functions, as the law knows them -/
structure Lib (P : Program) (w : World) (K : PySem.W.Frag) (mg : Str → Option Value) (base : Heap) where
  add : FnC P w K mg base "added" ["p", "q"] 4 (spAdd K id)
  addK : KBn K add.fd ["p", "q"] 0 ["q", "p"] g10 g10
  less : FnC P w K mg base "less" ["p", "q"] 4 (spAdd K rneg)
  lessK : KBn K less.fd ["p", "q"] 0 ["q", "p"] g10 g10
  mul : FnC P w K mg base "multiplied" ["p", "q"] 4 (spMul K)
  mulK : KBn K mul.fd ["p", "q"] 0 ["q", "p"] g10 g10
  con : FnC P w K mg base "constant" ["k"] 4 (spConst K)
  conK : KBn K con.fd ["k"] 0 ["k"] g1 g1
  pow : FnC P w K mg base "power" ["p", "k"] 4 (spPower K)
  powK : KBn K pow.fd ["p", "k"] 0 ["k", "p"] g10 g10
  handed : FnC P w K mg base "_law_handed" ["_law_tape_here", "_law_poly_here"] 3 (spHanded K)
  alike : FnC P w K mg base "_law_alike" ["_law_one", "_law_two"] 2 (spAlike K)
abbrev big : Nat := 6 * 10 ^ 40
/-- three polynomials as the law draws them -/
structure Dn (K : PySem.W.Frag) (S : List Str) (p : Poly) (v : V) (H : Hp) : Prop where
  res : Res K p v H
  gd : Gd S p 6 big
theorem eqv_nilr (p : Poly) : Eqv (p ++ []) p := fun φ => by rw [List.append_nil]
theorem eqv_sub (p : Poly) : Eqv (p ++ rneg p) [] := fun φ => by rw [ev_app, ev_rneg]; show _ = (0 : Int); omega
section
variable {P : Program} {w : World} {K : PySem.W.Frag} {mg : Str → Option Value} {base : Heap} {f : Addr} {fd : FuncData}
def spSums (K : PySem.W.Frag) : Sp := fun vs H Q _ => ∃ (T : Tp) (x y z : V) (S : List Str) (p q r : Poly), vs = [.ref T.t, x, y, z] ∧ Tape K T H ∧ S.length ≤ 1000 ∧ Dn K S p x H ∧ Dn K S q y H ∧ Dn K S r z H ∧ ∀ H', Dr K T H H' → Q (.bl true) H'
abbrev nSums : List Str := ["_law_tape_here", "_law_p", "_law_q", "_law_r", "_law_both", "_law_gap"]
theorem scSums : FnScope nSums ["_law_tape_here", "_law_p", "_law_q", "_law_r"] (defScope (top 37)) := ⟨rfl, rfl, rfl, by decide +kernel, rfl, by decide +kernel, by decide +kernel⟩
theorem ok_sums (F : FnP K "_law_sums_right" 37 f fd) (L : Lib P w K mg base) : FnOk P w K mg base CX0 5 f fd ["_law_tape_here", "_law_p", "_law_q", "_law_r"] (spSums K) := by
  have nd := scSums.nd
  refine F.ok scSums (fun vs H Q E h => ?_) (fun cdv A outer s H vs Q E hr h => ⟨_, PSs.nox (pss_cons (ps_set (i := 4) nd rfl (.inl rfl) (pe_call L.add.ok hr (by rfl) L.add.g L.add.kp L.add.b .nil pass0 (pa_cons (pv 1) (pa_cons (pv 2) pa_nil))))
    (pss_cons (ps_if (PW.pt (pw_or (pt_not (pt_val (pe_call L.alike.ok (hr.mono (by decide)) (by rfl) L.alike.g L.alike.kp L.alike.b .nil pass0 (pa_cons (pv 4) (pa_cons (pe_callN0 (n := 0) L.add.ok hr (by rfl) L.add.g L.add.kp L.addK pass0 (pk_cons (pe_call L.handed.ok (hr.mono (by decide)) (by rfl) L.handed.g L.handed.kp L.handed.b .nil pass0 (pa_cons (pv 0) (pa_cons (pv 1) pa_nil))) (pk_cons (pv 2) pk_nil))) pa_nil)))))
        (pw_or1 (pt_not (pt_val (pe_call L.alike.ok (hr.mono (by decide)) (by rfl) L.alike.g L.alike.kp L.alike.b .nil pass0 (pa_cons (pe_call L.add.ok hr (by rfl) L.add.g L.add.kp L.add.b .nil pass0 (pa_cons (pv 1) (pa_cons (pe_tup pa_nil) pa_nil))) (pa_cons (pv 1) pa_nil)))))))) (pss_one (ps_ret pe_bl)) pss_nil)
    (pss_cons (ps_if (PW.pt (pw_or (pt_not (pt_val (pe_call L.alike.ok (hr.mono (by decide)) (by rfl) L.alike.g L.alike.kp L.alike.b .nil pass0 (pa_cons (pe_call L.add.ok hr (by rfl) L.add.g L.add.kp L.add.b .nil pass0 (pa_cons (pv 4) (pa_cons (pv 3) pa_nil))) (pa_cons (pe_call L.add.ok hr (by rfl) L.add.g L.add.kp L.add.b .nil pass0 (pa_cons (pv 1) (pa_cons (pe_call L.add.ok hr (by rfl) L.add.g L.add.kp L.add.b .nil pass0 (pa_cons (pv 2) (pa_cons (pv 3) pa_nil))) pa_nil))) pa_nil)))))
        (pw_or1 (pt_not (pt_val (pe_call L.alike.ok (hr.mono (by decide)) (by rfl) L.alike.g L.alike.kp L.alike.b .nil pass0 (pa_cons (pe_call L.less.ok hr (by rfl) L.less.g L.less.kp L.less.b .nil pass0 (pa_cons (pv 1) (pa_cons (pv 1) pa_nil))) (pa_cons (pe_tup pa_nil) pa_nil)))))))) (pss_one (ps_ret pe_bl)) pss_nil)
    (pss_cons (ps_set (i := 5) nd rfl (.inl rfl) (pe_call L.less.ok hr (by rfl) L.less.g L.less.kp L.less.b .nil pass0 (pa_cons (pe_call L.handed.ok (hr.mono (by decide)) (by rfl) L.handed.g L.handed.kp L.handed.b .nil pass0 (pa_cons (pv 0) (pa_cons (pv 1) pa_nil))) (pa_cons (pv 2) pa_nil))))
    (pss_cons (ps_if (PW.pt (pw_or (pt_not (pt_val (pe_call L.alike.ok (hr.mono (by decide)) (by rfl) L.alike.g L.alike.kp L.alike.b .nil pass0 (pa_cons (pv 5) (pa_cons (pe_call L.add.ok hr (by rfl) L.add.g L.add.kp L.add.b .nil pass0 (pa_cons (pv 1) (pa_cons (pe_call L.mul.ok hr (by rfl) L.mul.g L.mul.kp L.mul.b .nil pass0 (pa_cons (pe_call L.con.ok hr (by rfl) L.con.g L.con.kp L.con.b .nil pass0 (pa_cons (pe_un un_neg pe_int) pa_nil)) (pa_cons (pv 2) pa_nil))) pa_nil))) pa_nil)))))
        (pw_or1 (pt_not (pt_val (pe_call L.alike.ok (hr.mono (by decide)) (by rfl) L.alike.g L.alike.kp L.alike.b .nil pass0 (pa_cons (pe_call L.add.ok hr (by rfl) L.add.g L.add.kp L.add.b .nil pass0 (pa_cons (pv 5) (pa_cons (pv 2) pa_nil))) (pa_cons (pv 1) pa_nil)))))))) (pss_one (ps_ret pe_bl)) pss_nil)
    (pss_one (ps_ret (pe_and (pe_call L.alike.ok (hr.mono (by decide)) (by rfl) L.alike.g L.alike.kp L.alike.b .nil pass0 (pa_cons (pe_callN0 (n := 0) L.less.ok hr (by rfl) L.less.g L.less.kp L.lessK pass0 (pk_cons (pv 1) (pk_cons (pe_tup pa_nil) pk_nil))) (pa_cons (pe_call L.mul.ok hr (by rfl) L.mul.g L.mul.kp L.mul.b .nil pass0 (pa_cons (pv 1) (pa_cons (pe_callN0 (n := 0) L.con.ok hr (by rfl) L.con.g L.con.kp L.conK pass0 (pk_cons (pe_un un_neg pe_int) pk_nil)) pa_nil))) pa_nil)))
        (pe_one (pe_call L.alike.ok (hr.mono (by decide)) (by rfl) L.alike.g L.alike.kp L.alike.b .nil pass0 (pa_cons (pe_call L.less.ok hr (by rfl) L.less.g L.less.kp L.less.b .nil pass0 (pa_cons (pv 1) (pa_cons (pe_tup pa_nil) pa_nil))) (pa_cons (pv 1) pa_nil)))))))))))), ?_⟩)
  · obtain ⟨T, x, y, z, S, p, q, r, rfl, _⟩ := h; rfl
  · obtain ⟨T, x, y, z, S, p, q, r, rfl, ht, hS, hx, hy, hz, hq⟩ := h
    have st : ∀ {E}, Stay K T (Res K E) := stay_res
    have sh : ∀ {E}, Stay K T (ResH K E) := stay_resH
    refine set_er (er_call2 (er_h (er_var rfl hx.res st)) (er_h (er_var rfl hy.res st)) sh (sp_add id hx.gd hy.gd (by decide) (by decide))) (Dr.refl ht) fun v4 H1 d1 r4 => ?_
    have t1 := d1.2.2
    have r1 := hx.res.keep d1.2.1
    have r2 := hy.res.keep d1.2.1
    have r3 := hz.res.keep d1.2.1
    refine skip_if (eb_or (eb_not (eb_alike (er_var rfl r4 st) (er_call2K (er_handed rfl rfl r1.h) (er_h (er_var rfl r2 st)) sh fun a b H2 Q t ha hb k => sp_add id hy.gd hx.gd (by decide) (by decide) b a H2 Q t hb ha k) (app_comm _ _) (hx.gd.app hy.gd) (by decide) hS))
      (eb_not (eb_alike (er_call2 (er_h (er_var rfl r1 st)) (er_h er_nil) sh (sp_add id hx.gd Gd.nil (by decide) (by decide))) (er_var rfl r1 st) (eqv_nilr p).symm (hx.gd.app Gd.nil) (by decide) hS))) (Dr.refl t1) fun H2 d2 => ?_
    refine skip_if (eb_or (eb_not (eb_alike (er_call2 (er_h (er_var rfl r4 st)) (er_h (er_var rfl r3 st)) sh (sp_add id (hx.gd.app hy.gd) hz.gd (by decide) (by decide))) (er_call2 (er_h (er_var rfl r1 st)) (er_h (er_call2 (er_h (er_var rfl r2 st)) (er_h (er_var rfl r3 st)) sh (sp_add id hy.gd hz.gd (by decide) (by decide)))) sh (sp_add id hx.gd (hy.gd.app hz.gd) (by decide) (by decide))) (app_assoc _ _ _).symm ((hx.gd.app hy.gd).app hz.gd) (by decide) hS))
      (eb_not (eb_alike (er_call2 (er_h (er_var rfl r1 st)) (er_h (er_var rfl r1 st)) sh (sp_add rneg hx.gd hx.gd (by decide) (by decide))) er_nil (eqv_sub p).symm (hx.gd.app hx.gd.neg) (by decide) hS))) d2 fun H3 d3 => ?_
    refine set_er (er_call2 (er_handed rfl rfl r1.h) (er_h (er_var rfl r2 st)) sh (sp_add rneg hx.gd hy.gd (by decide) (by decide))) (d2.trans d3) fun v5 H4 d4 r5 => ?_
    have dd := (d2.trans d3).trans d4
    have t4 := dd.2.2
    have q1 := r1.keep dd.2.1
    have q2 := r2.keep dd.2.1
    have e8 : Eqv (rmul p [([], (-1 : Int))]) ([] ++ rneg p) := fun φ => by rw [mul_scal, ev_app, ev_rneg]; show _ = (0 : Int) + _; omega
    refine skip_if (eb_or (eb_not (eb_alike (er_var rfl r5 st) (er_call2 (er_h (er_var rfl q1 st)) (er_h (er_call2 (er_h (er_const er_neg1 (by decide))) (er_h (er_var rfl q2 st)) sh (sp_mul (Gd.num (-1) (n := 1) (by decide)) hy.gd hS (by decide) (by decide) (by decide) (by decide +kernel)))) sh (sp_add id hx.gd ((Gd.num (-1) (n := 1) (by decide)).mul hy.gd) (by decide) (by decide))) (eqv_app (.refl p) fun φ => by show ev (id (rmul [([], -1)] q)) φ = _; rw [id, scal_mul hy.gd.mp, ev_rneg]; omega) (hx.gd.app hy.gd.neg) (by decide) hS))
      (eb_not (eb_alike (er_call2 (er_h (er_var rfl r5 st)) (er_h (er_var rfl q2 st)) sh (sp_add id (hx.gd.app hy.gd.neg) hy.gd (by decide) (by decide))) (er_var rfl q1 st) (fun φ => by show _ = ev ((p ++ rneg q) ++ q) φ; rw [ev_app, ev_app, ev_rneg]; omega) ((hx.gd.app hy.gd.neg).app hy.gd) (by decide) hS))) (Dr.refl t4) fun H5 d5 => ?_
    refine ret_er (er_and (eb_alike (er_call2K (er_h (er_var rfl q1 st)) (er_h er_nil) sh fun a b H2 Q t ha hb k => sp_add rneg Gd.nil hx.gd (by decide) (by decide) b a H2 Q t hb ha k) (er_call2 (er_h (er_var rfl q1 st)) (er_h (er_constK er_neg1 (by decide))) sh (sp_mul hx.gd (Gd.num (-1) (n := 1) (by decide)) hS (by decide) (by decide) (by decide +kernel) (by decide))) e8 (Gd.nil.app hx.gd.neg) (by decide) hS)
      (eb_alike (er_call2 (er_h (er_var rfl q1 st)) (er_h er_nil) sh (sp_add rneg hx.gd Gd.nil (by decide) (by decide))) (er_var rfl q1 st) (fun φ => by rw [ev_app]; show _ = _ + (0 : Int); omega) (hx.gd.app Gd.nil.neg) (by decide) hS)) d5 fun v H6 d6 ev => ?_
    rw [ev]
    exact hq H6 (((d1.trans dd).trans d5).trans d6)
end
end K03
set_option Elab.async false
set_option linter.all false
set_option maxRecDepth 100000
set_option maxHeartbeats 4000000
/-! products -/
namespace K03
open PySem PySem.Spec PyProof.Rows L2
structure Lib2 (P : Program) (w : World) (K : PySem.W.Frag) (mg : Str → Option Value) (base : Heap) where
  vars : FnC P w K mg base "variables" ["p"] 1 (spVars K)
  deg : FnC P w K mg base "degree_in" ["p", "variable"] 1 (spDeg K)
  degK : KBn K deg.fd ["p", "variable"] 1 ["variable"] g1 g1
  same : FnC P w K mg base "_law_same" ["_law_actual", "_law_due"] 5 (spSame K 4)
theorem mul_nil (p : Poly) : Eqv (rmul p []) [] := fun φ => by
  rw [ev_rmul]
  exact ev_out fun t _ => rfl
theorem num_zero : Eqv [([], (0 : Int))] [] := fun φ => by show 0 * _ + 0 = (0 : Int); omega
section
variable {P : Program} {w : World} {K : PySem.W.Frag} {mg : Str → Option Value} {base : Heap} {f : Addr} {fd : FuncData}
abbrev nProds : List Str := ["_law_tape_here", "_law_p", "_law_q", "_law_r", "_law_product", "_law_names", "_law_due", "_law_name"]
theorem scProds : FnScope nProds ["_law_tape_here", "_law_p", "_law_q", "_law_r"] (defScope (top 38)) := ⟨rfl, rfl, rfl, by decide +kernel, rfl, by decide +kernel, by decide +kernel⟩
abbrev rListOf (K : PySem.W.Frag) : List V → Hp → VK → Prop := fun xs H Q => ∃ p ys, xs = [.ref p] ∧ (SqL K H p ys ∨ SqT K H p ys) ∧ ∀ l, H l = none → Q (.ref l) (upd H l (.lst ys))
theorem sp_vars {H : Hp} {R : Poly} {x : V} {S : List Str} (h : Dp K H x (encP R)) (ho : Over (· ∈ S) R) (hS : S.length ≤ 1000) {Q : VK} (q : ∀ (a : Addr) (H' : Hp) (ns : List Str) (vs : List V), Same H H' → SqT K H' a vs → vs = ns.map V.str → ns.Pairwise nlt → (∀ x, x ∈ ns ↔ x ∈ namesOf R) → ns.length ≤ 1000 → Q (.ref a) H') : spVars K [x] H Q E0 := by
  refine ⟨x, R, S, rfl, dpP (.inl h), ho, hS, fun v H' ns e hd hr hm => ?_⟩
  obtain ⟨a, vs, rfl, h1, h2⟩ := hd.tupI
  have ev : vs = ns.map V.str := by
    clear hm hr h1 hd
    induction ns generalizing vs with
    | nil => cases h2; rfl
    | cons n ns ih =>
      rw [List.map_cons] at h2
      cases h2 with
      | cons k1 k2 =>
        cases k1.strI
        rw [List.map_cons, ← ih _ k2]
  refine q a H' ns vs e h1 ev hr hm (Nat.le_trans (nodup_len (rising_nodup nlt_irr hr) (m := S) fun x hx => ?_) hS)
  obtain ⟨t, ht, hy⟩ := List.mem_flatMap.mp ((hm x).mp hx)
  obtain ⟨r, hr, rfl⟩ := List.mem_map.mp hy
  exact ho t ht r hr
theorem inV_str (n : Str) : ∀ L : List Str, inV (.str n) (L.map V.str) = decide (n ∈ L)
  | [] => rfl
  | m :: L => by
    have ih := inV_str n L
    unfold inV at ih ⊢
    rw [List.map_cons, List.any_cons, ih]
    have e : eqV (V.str m) (V.str n) = decide (m = n) := by
      show (m == n) = _
      by_cases h : m = n
      · rw [decide_eq_true h, h]; exact beq_self_eq_true n
      · rw [decide_eq_false h]; exact beq_eq_false_iff_ne.mpr h
    rw [e]
    by_cases h : m = n
    · simp [h]
    · simp [h, Ne.symm h]
theorem paired_str : ∀ {L : List Str} {acc : List V}, Paired (fun n y => y = V.str n) L acc → acc = L.map V.str
  | _, _, .nil => rfl
  | _, _, .cons h t => by rw [h, paired_str t]; rfl
theorem str_paired : ∀ L : List Str, Paired (fun n y => y = V.str n) L (L.map V.str)
  | [] => .nil
  | n :: L => .cons rfl (str_paired L)
theorem dp_names {H : Hp} : ∀ ns : List Str, DpAll K H (ns.map V.str) (ns.map PyData.str)
  | [] => .nil
  | n :: ns => .cons (.str n) (dp_names ns)
theorem ok_prods (F : FnP K "_law_products_right" 38 f fd) (L : Lib P w K mg base) (L2 : Lib2 P w K mg base) (gLen : mg "len" = none) (gLi : mg "list" = none) (gT : mg "tuple" = none) (gS : mg "sorted" = none) : FnOk P w K mg base CX0 6 f fd ["_law_tape_here", "_law_p", "_law_q", "_law_r"] (spSums K) := by
  have nd := scProds.nd
  refine F.ok scProds (fun vs H Q E h => ?_) (fun cdv A outer s H vs Q E hr h => ⟨_, PSs.nox (pss_cons (ps_set (i := 4) nd rfl (.inl rfl) (pe_call L.mul.ok (hr.mono (by decide)) (by rfl) L.mul.g L.mul.kp L.mul.b .nil pass0 (pa_cons (pv 1) (pa_cons (pv 2) pa_nil))))
    (pss_cons (ps_if (PW.pt (pw_or (pt_not (pt_val (pe_call L.alike.ok (hr.mono (by decide)) (by rfl) L.alike.g L.alike.kp L.alike.b .nil pass0 (pa_cons (pv 4) (pa_cons (pe_callN0 (n := 0) L.mul.ok (hr.mono (by decide)) (by rfl) L.mul.g L.mul.kp L.mulK pass0 (pk_cons (pv 1) (pk_cons (pe_call L.handed.ok (hr.mono (by decide)) (by rfl) L.handed.g L.handed.kp L.handed.b .nil pass0 (pa_cons (pv 0) (pa_cons (pv 2) pa_nil))) pk_nil))) pa_nil)))))
        (pw_or1 (pt_not (pt_val (pe_call L.alike.ok (hr.mono (by decide)) (by rfl) L.alike.g L.alike.kp L.alike.b .nil pass0 (pa_cons (pe_call L.mul.ok (hr.mono (by decide)) (by rfl) L.mul.g L.mul.kp L.mul.b .nil pass0 (pa_cons (pv 1) (pa_cons (pe_tup pa_nil) pa_nil))) (pa_cons (pe_tup pa_nil) pa_nil)))))))) (pss_one (ps_ret pe_bl)) pss_nil)
    (pss_cons (ps_if (pt_not (pt_val (pe_call L.alike.ok (hr.mono (by decide)) (by rfl) L.alike.g L.alike.kp L.alike.b .nil pass0 (pa_cons (pe_call L.mul.ok (hr.mono (by decide)) (by rfl) L.mul.g L.mul.kp L.mul.b .nil pass0 (pa_cons (pv 4) (pa_cons (pv 3) pa_nil))) (pa_cons (pe_call L.mul.ok (hr.mono (by decide)) (by rfl) L.mul.g L.mul.kp L.mul.b .nil pass0 (pa_cons (pv 1) (pa_cons (pe_call L.mul.ok (hr.mono (by decide)) (by rfl) L.mul.g L.mul.kp L.mul.b .nil pass0 (pa_cons (pv 2) (pa_cons (pv 3) pa_nil))) pa_nil))) pa_nil))))) (pss_one (ps_ret pe_bl)) pss_nil)
    (pss_cons (ps_if (pt_not (pt_val (pe_call L.alike.ok (hr.mono (by decide)) (by rfl) L.alike.g L.alike.kp L.alike.b .nil pass0 (pa_cons (pe_call L.mul.ok (hr.mono (by decide)) (by rfl) L.mul.g L.mul.kp L.mul.b .nil pass0 (pa_cons (pv 1) (pa_cons (pe_call L.add.ok (hr.mono (by decide)) (by rfl) L.add.g L.add.kp L.add.b .nil pass0 (pa_cons (pv 2) (pa_cons (pv 3) pa_nil))) pa_nil))) (pa_cons (pe_call L.add.ok (hr.mono (by decide)) (by rfl) L.add.g L.add.kp L.add.b .nil pass0 (pa_cons (pv 4) (pa_cons (pe_call L.mul.ok (hr.mono (by decide)) (by rfl) L.mul.g L.mul.kp L.mul.b .nil pass0 (pa_cons (pv 1) (pa_cons (pv 3) pa_nil))) pa_nil))) pa_nil))))) (pss_one (ps_ret pe_bl)) pss_nil)
    (pss_cons (ps_if (PW.pt (pw_or (pt_not (pt_val (pe_call L.alike.ok (hr.mono (by decide)) (by rfl) L.alike.g L.alike.kp L.alike.b .nil pass0 (pa_cons (pe_call L.mul.ok (hr.mono (by decide)) (by rfl) L.mul.g L.mul.kp L.mul.b .nil pass0 (pa_cons (pe_call L.con.ok (hr.mono (by decide)) (by rfl) L.con.g L.con.kp L.con.b .nil pass0 (pa_cons pe_int pa_nil)) (pa_cons (pv 1) pa_nil))) (pa_cons (pv 1) pa_nil)))))
        (pw_or1 (pt_not (pt_val (pe_call L.alike.ok (hr.mono (by decide)) (by rfl) L.alike.g L.alike.kp L.alike.b .nil pass0 (pa_cons (pe_call L.con.ok (hr.mono (by decide)) (by rfl) L.con.g L.con.kp L.con.b .nil pass0 (pa_cons pe_int pa_nil)) (pa_cons (pe_tup pa_nil) pa_nil)))))))) (pss_one (ps_ret pe_bl)) pss_nil)
    (pss_cons (ps_if (PW.pt (pw_or (pt_cmpR op_eq (pe_callB call_len_seq (by rfl) gLen boot_len (pa_cons (pv 1) pa_nil)) pe_int (nomark _)) (pw_or1 (pt_cmpR op_eq (pe_callB call_len_seq (by rfl) gLen boot_len (pa_cons (pv 2) pa_nil)) pe_int (nomark _))))) (pss_one (ps_ret pe_bl)) pss_nil)
    (pss_cons (ps_set (i := 5) nd rfl (.inl rfl) (pe_call L2.vars.ok (hr.mono (by decide)) (by rfl) L2.vars.g L2.vars.kp L2.vars.b .nil pass0 (pa_cons (pv 4) pa_nil)))
    (pss_cons (ps_set (i := 6) nd rfl (.inl rfl) (pe_op op_cat (pe_callTy call_list_of (by rfl) gLi PyProof.Rows.boot_list (pa_cons (pe_call L2.vars.ok (hr.mono (by decide)) (by rfl) L2.vars.g L2.vars.kp L2.vars.b .nil pass0 (pa_cons (pv 1) pa_nil)) pa_nil))
        (pe_lc (own := [("_law_name", 7)]) (g := gName 7) (tt := tTest (tOp (rIn K true) (tVar 7) (tCall (spVars K) [] E0 (tCons (tVar 1) tNil)))) (te := tVar 7) rfl nd (pi_seq (pe_call L2.vars.ok (hr.mono (by decide)) (by rfl) L2.vars.g L2.vars.kp L2.vars.b .nil pass0 (pa_cons (pv 2) pa_nil)))
          (blkOk_by (own := [("_law_name", 7)]) (N := nProds) (sc := defScope (top 38)) (by decide +kernel)) (fun _ _ _ _ _ => pg_name (i := 7) nd rfl (.inl rfl))
          (fun _ _ _ _ _ => pts_one (pt_cmpR op_notIn_seq (pv 7) (pe_call L2.vars.ok (hr.mono (by decide)) (by rfl) L2.vars.g L2.vars.kp L2.vars.b .nil pass0 (pa_cons (pv 1) pa_nil)) (by rfl))) (fun _ _ _ _ _ => pv 7))))
    (pss_cons (ps_if (pt_not (pt_val (pe_call L2.same.ok hr (by rfl) L2.same.g L2.same.kp L2.same.b .nil pass0 (pa_cons (pv 5) (pa_cons (pe_callTy call_tuple_of (by rfl) gT PyProof.Rows.boot_tuple (pa_cons (pe_callB (call_sortedD (enc := PyData.str) hr.units) (by rfl) gS boot_sorted (pa_cons (pv 6) pa_nil)) pa_nil)) pa_nil))))) (pss_one (ps_ret pe_bl)) pss_nil)
    (pss_cons (ps_for PassesOwn.never rfl (pi_seq (pv 5)) (pg_name (i := 7) nd rfl (.inl rfl))
      (pss_one (ps_if (pt_not (pt_val (pe_call L2.same.ok hr (by rfl) L2.same.g L2.same.kp L2.same.b .nil pass0 (pa_cons (pe_call L2.deg.ok (hr.mono (by decide)) (by rfl) L2.deg.g L2.deg.kp L2.deg.b .nil pass0 (pa_cons (pv 4) (pa_cons (pv 7) pa_nil))) (pa_cons (pe_op op_add (pe_call L2.deg.ok (hr.mono (by decide)) (by rfl) L2.deg.g L2.deg.kp L2.deg.b .nil pass0 (pa_cons (pv 1) (pa_cons (pv 7) pa_nil)))
          (pe_callN L2.deg.ok (hr.mono (by decide)) (by rfl) L2.deg.g L2.deg.kp L2.degK pass0 (pa_cons (pv 2) pa_nil) (pk_cons (pv 7) pk_nil))) pa_nil))))) (pss_one (ps_ret pe_bl)) pss_nil)))
    (pss_one (ps_ret (pe_cmpR op_gt (pe_callB call_len_seq (by rfl) gLen boot_len (pa_cons (pv 4) pa_nil)) pe_int (nomark _)))))))))))))), ?_⟩)
  · obtain ⟨T, x, y, z, S, p, q, r, rfl, _⟩ := h; rfl
  · obtain ⟨T, x, y, z, S, p, q, r, rfl, ht, hS, hx, hy, hz, hq⟩ := h
    have st : ∀ {E}, Stay K T (Res K E) := stay_res
    have sh : ∀ {E}, Stay K T (ResH K E) := stay_resH
    have b1 : 6 * 6 ≤ 2000 := by decide
    have b3 : big < 2 ^ 3000 := by decide +kernel
    have b4 : big * big < 2 ^ 3000 := by decide +kernel
    have b2 : big * big < 10 ^ 200 := by decide
    refine set_er (er_call2 (er_h (er_var rfl hx.res st)) (er_h (er_var rfl hy.res st)) sh (sp_mul hx.gd hy.gd hS b1 b2 b3 b3)) (Dr.refl ht) fun v4 H1 d1 r4 => ?_
    have t1 := d1.2.2
    have r1 := hx.res.keep d1.2.1
    have r2 := hy.res.keep d1.2.1
    have r3 := hz.res.keep d1.2.1
    have gm := hx.gd.mul hy.gd
    refine skip_if (eb_or (eb_not (eb_alike (er_var rfl r4 st) (er_call2K (er_h (er_var rfl r1 st)) (er_handed rfl rfl r2.h) sh fun a b H2 Q t ha hb k => sp_mul hy.gd hx.gd hS b1 b2 b3 b3 b a H2 Q t hb ha k) (mul_comm' hy.gd.mp hx.gd.mp) gm (by decide) hS))
      (eb_not (eb_alike (er_call2 (er_h (er_var rfl r1 st)) (er_h er_nil) sh (sp_mul hx.gd Gd.nil hS (by decide) (by decide) b3 (by decide))) er_nil (mul_nil p).symm (hx.gd.mul Gd.nil) (by decide) hS))) (Dr.refl t1) fun H2 d2 => ?_
    refine skip_if (eb_not (eb_alike (er_call2 (er_h (er_var rfl r4 st)) (er_h (er_var rfl r3 st)) sh (sp_mul gm hz.gd hS (by decide) (by decide) b4 b3)) (er_call2 (er_h (er_var rfl r1 st)) (er_h (er_call2 (er_h (er_var rfl r2 st)) (er_h (er_var rfl r3 st)) sh (sp_mul hy.gd hz.gd hS b1 b2 b3 b3))) sh (sp_mul hx.gd (hy.gd.mul hz.gd) hS (by decide) (by decide) b3 b4)) (mul_assoc' hx.gd.mp hy.gd.mp hz.gd.mp).symm (gm.mul hz.gd) (by decide) hS)) d2 fun H3 d3 => ?_
    refine skip_if (eb_not (eb_alike (er_call2 (er_h (er_var rfl r1 st)) (er_h (er_call2 (er_h (er_var rfl r2 st)) (er_h (er_var rfl r3 st)) sh (sp_add id hy.gd hz.gd (by decide) (by decide)))) sh (sp_mul hx.gd (hy.gd.app hz.gd) hS (by decide) (by decide) b3 (by decide +kernel))) (er_call2 (er_h (er_var rfl r4 st)) (er_h (er_call2 (er_h (er_var rfl r1 st)) (er_h (er_var rfl r3 st)) sh (sp_mul hx.gd hz.gd hS b1 b2 b3 b3))) sh (sp_add id gm (hx.gd.mul hz.gd) (by decide) (by decide))) (mul_app _ _ _).symm (hx.gd.mul (hy.gd.app hz.gd)) (by decide) hS)) (d2.trans d3) fun H4 d4 => ?_
    refine skip_if (eb_or (eb_not (eb_alike (er_call2 (er_h (er_const (er_int 1) (by decide))) (er_h (er_var rfl r1 st)) sh (sp_mul (Gd.num 1 (n := 1) (by decide)) hx.gd hS (by decide) (by decide) (by decide) b3)) (er_var rfl r1 st) (one_mul' hx.gd.mp).symm ((Gd.num 1 (n := 1) (by decide)).mul hx.gd) (by decide) hS))
      (eb_not (eb_alike (S := S) (er_const (er_int 0) (by decide)) er_nil num_zero.symm (Gd.num 0 (n := 1) (by decide)) (by decide) hS))) ((d2.trans d3).trans d4) fun H5 d5 => ?_
    have e5 := ((d1.trans (d2.trans d3)).trans d4).trans d5
    have dd : Dr K T H1 H5 := ((d2.trans d3).trans d4).trans d5
    obtain ⟨Rp, dp, cp, ep⟩ := r1.keep dd.2.1
    obtain ⟨Rq, dq, cq, eq⟩ := r2.keep dd.2.1
    obtain ⟨Rm, dm, cm, em⟩ := r4.keep dd.2.1
    obtain ⟨ap, xp, rfl, hsp, hap⟩ := dp.tupI
    obtain ⟨aq, xq, rfl, hsq, haq⟩ := dq.tupI
    have lp : xp.length = Rp.length := by have := hap.len; simpa using this
    have lq : xq.length = Rq.length := by have := haq.len; simpa using this
    refine if_stepN (evt_or (et_eq (ec_len (ec_var rfl) hsp) ec_c rfl) fun _ => et_eq (ec_len (ec_var rfl) hsq) ec_c rfl) (fun _ => hq H5 e5) fun hne => ?_
    have hne2 : Rp ≠ [] ∧ Rq ≠ [] := by
      rw [lp, lq] at hne
      constructor
      · intro z; subst z; simp at hne
      · intro z; subst z; simp at hne
    obtain ⟨np0, nq0⟩ := hne2
    have hmul : Eqv Rm (rmul Rp Rq) := em.trans (eqv_mul ep eq).symm
    have op := Over.of mlt_irr cp ep hx.gd.ov
    have oq := Over.of mlt_irr cq eq hy.gd.ov
    have om := Over.of mlt_irr cm em gm.ov
    have bl : 3000 ≤ sizeLine := by decide
    refine ⟨_, rfl, sp_vars dm om hS fun a5 H6 ns5 vs5 s6 h5 ev5 hr5 hm5 hl5 => ?_⟩
    subst ev5
    refine ⟨_, rfl, sp_vars (dp.same s6) op hS fun a6 H7 np vp s7 h6 ev6 hr6 hm6 hl6 => ⟨a6, vp, rfl, .inr h6, fun l8 hl8 => ?_⟩⟩
    subst ev6
    have s8 : Same H5 (upd H7 l8 (.lst (np.map V.str))) := (s6.trans s7).trans (same_new hl8)
    refine ⟨_, rfl, sp_vars (dq.same s8) oq hS fun a9 H9 nq vq s9 h9 ev9 hr9 hm9 hl9 => ⟨a9, rfl, lc_map (fun n y H => y = .str n) (fun n => decide (n ∉ np)) (l := nq) (fun _ _ _ _ h _ => h) (.inr h9) (Keep.refl _) (by rw [ev9, List.length_map]) ?_ ?_⟩⟩
    · rintro D i u n H10 Kt Kf hD hu hn s10 k1 k2 ⟨acc, eD⟩
      have eu : u = .str n := by
        rw [ev9, List.getElem?_map, hn] at hu
        exact (Option.some.inj hu).symm
      subst eu
      refine ⟨rfl, _, rfl, _, rfl, sp_vars (dp.same ((s8.trans s9).trans s10)) op hS fun a11 H11 np' vp' s11 h11 ev11 hr11 hm11 hl11 => ⟨a11, vp', rfl, .inr h11, rfl, by rw [ev11]; exact all_flat np', ?_⟩⟩
      have enp : np' = np := rising_ext nlt_irr (fun _ _ _ => nlt_trans) hr11 hr6 fun x => (hm11 x).trans (hm6 x).symm
      have et : (if true = true then !inV (V.str n) vp' else inV (V.str n) vp') = decide (n ∉ np) := by
        rw [if_pos rfl, ev11, enp, inV_str]
        by_cases h : n ∈ np
        · simp [h]
        · simp [h]
      rw [et]
      refine ⟨_, rfl, ?_⟩
      cases hk : decide (n ∉ np) with
      | true => exact ⟨_, rfl, k1 _ _ hk s11 rfl⟩
      | false => exact k2 _ hk s11
    · rintro D acc H10 hD s10 eD hacc
      have eacc := paired_str hacc
      subst eacc
      have hl8' : H10 l8 = some (.lst (np.map V.str)) := s10 _ _ (s9 _ _ upd_same)
      have fl : (nq.filter fun n => decide (n ∉ np)).length ≤ 1000 := Nat.le_trans (List.length_filter_le _ _) hl9
      refine ⟨l8, D, _, _, rfl, rfl, hl8', eD, (by rw [List.length_map, List.length_map]; exact Nat.le_trans (Nat.add_le_add hl6 fl) (Nat.le_trans (by decide) bl)), fun l10 hl10 => ?_⟩
      generalize hLd : np ++ nq.filter (fun n => decide (n ∉ np)) = LL
      have eL : np.map V.str ++ (nq.filter fun n => decide (n ∉ np)).map V.str = LL.map V.str := by rw [← hLd, List.map_append]
      rw [eL]
      have ndL : LL.Nodup := by
        rw [← hLd, List.nodup_append]
        refine ⟨rising_nodup nlt_irr hr6, (rising_nodup nlt_irr hr9).sublist List.filter_sublist, fun a ha b hb => ?_⟩
        have := of_decide_eq_true (List.mem_filter.mp hb).2
        exact fun z => this (z ▸ ha)
      have mL : ∀ x, x ∈ LL ↔ x ∈ namesOf Rm := fun x => by
        rw [mul_names mlt_irr cp cq cm hmul np0 nq0 x, ← hm6 x, ← hm9 x, ← hLd, List.mem_append, List.mem_filter]
        by_cases h : x ∈ np
        · simp [h]
        · simp [h]
      have sL : sortN LL = ns5 := rising_ext nlt_irr (fun _ _ _ => nlt_trans) (sortN_rise ndL) hr5 fun x => ((List.mergeSort_perm LL (PySem.W.dataLe false PyData.str)).mem_iff.trans (mL x)).trans (hm5 x).symm
      have s12 : Same H6 (upd H10 l10 (.lst (LL.map V.str))) := (((s7.trans (same_new hl8)).trans s9).trans s10).trans (same_new hl10)
      refine ⟨_, rfl, _, rfl, fun n x => x = .str n, l10, _, LL, rfl, SqX.of_l upd_same, str_paired LL, fun n x h => by rw [h]; exact .str n, sortOkN LL, fun ys p hys hp => ⟨p, ys, rfl, .inl ⟨SqX.of_l upd_same, fun t ht => ?_⟩⟩⟩
      have eys := paired_str hys
      rw [show (LL.mergeSort (PySem.W.dataLe false PyData.str)) = ns5 from sL] at eys
      subst eys
      have s13 : Same H6 (upd (upd (upd H10 l10 (.lst (LL.map V.str))) p (.lst (ns5.map V.str))) t (.tup (ns5.map V.str))) := s12.trans ((same_new hp).trans (same_new ht))
      refine ⟨.ref a5, .ref t, .tuple (ns5.map PyData.str), rfl, .tup (sqT_keep (.of s13) h5) (dp_names ns5), Dp.newTup upd_same (dp_names ns5), ?_, true, rfl, ?_⟩
      · refine .tup 3 _ (by rw [List.length_map]; omega) fun i d hd => ?_
        rw [List.getElem?_map] at hd
        obtain ⟨n, _, rfl⟩ := Option.map_eq_some_iff.mp hd
        exact .str 3 n
      generalize hH : upd (upd (upd H10 l10 (.lst (LL.map V.str))) p (.lst (ns5.map V.str))) t (.tup (ns5.map V.str)) = H13 at s13
      have s14 : Same H5 H13 := s6.trans s13
      have bnd : ∀ {R E : Poly} {l n : Nat}, CanonP mlt R → Eqv R E → Gd S E l n → l ≤ 2000 → R.length ≤ 2000 ∧ ∀ t ∈ R, t.1.length ≤ 1000 := fun {R E l n} c e g hl => ⟨Nat.le_trans (len_le mlt_irr c e) (Nat.le_trans g.len hl), fun t ht => Nat.le_trans (mono_len (c.mono t ht) fun q hq => Over.of mlt_irr c e g.ov t ht q hq) hS⟩
      obtain ⟨bp1, bp2⟩ := bnd cp ep hx.gd (by decide)
      obtain ⟨bq1, bq2⟩ := bnd cq eq hy.gd (by decide)
      obtain ⟨bm1, bm2⟩ := bnd cm em gm (by decide)
      obtain ⟨hm0, hdeg⟩ := mul_deg mlt_irr cp cq cm hmul np0 nq0
      refine ⟨_, rfl, a5, rfl, for_seq (.inr (sqT_keep (.of s13) h5)) (Keep.refl _) (fun i σ H' => ∃ x7, σ = [some (.ref T.t), some (.ref ap), some (.ref aq), some z, some v4, some (.ref a5), some (.ref l10), x7] ∧ Same H13 H') ?_ ?_ ?_ ?_⟩
      · exact fun _ => ⟨_, rfl, fun _ _ e => e⟩
      · rintro i σ H' ⟨x7, _, e⟩
        exact .of e
      · rintro i u σ H' hz hi hu ⟨x7, rfl, e⟩
        rw [List.getElem?_map] at hu
        obtain ⟨n, hn, rfl⟩ := Option.map_eq_some_iff.mp hu
        have s15 := s14.trans e
        refine ⟨_, rfl, _, rfl, v4, n, Rm, rfl, dpP (.inl (dm.same s15)), cm.mono, bm1, bm2, fun g4 H16 s16 dg4 => ?_⟩
        refine ⟨_, rfl, _, rfl, _, n, Rp, rfl, dpP (.inl (dp.same (s15.trans s16))), cp.mono, bp1, bp2, fun gp H17 s17 dgp => ?_⟩
        refine ⟨_, rfl, _, rfl, rfl, rfl, _, n, Rq, rfl, dpP (.inl (dq.same ((s15.trans s16).trans s17))), cq.mono, bq1, bq2, fun gq H18 s18 dgq => ?_⟩
        have eg := hdeg n gp gq g4 dgp dgq dg4
        refine ⟨_, _, rfl, rfl, .int g4, .int (gp + gq), .int g4, rfl, .int g4, by rw [eg]; exact .int _, .int 4 g4, true, rfl, ?_⟩
        exact ⟨_, rfl, ((e.trans s16).trans s17).trans s18⟩
      · rintro σ H' ⟨x7, rfl, e⟩
        obtain ⟨am, xm, rfl, hsm, ham⟩ := dm.tupI
        have lm : xm.length = Rm.length := by have := ham.len; simpa using this
        have hpos : 0 < Rm.length := by
          cases Rm with
          | nil => exact absurd rfl hm0
          | cons _ _ => simp
        refine ⟨_, rfl, am, xm, rfl, .inr (sqT_keep (.of (s14.trans e)) hsm), _, _, rfl, rfl, ?_⟩
        show Q (.bl (decide ((0 : Int) < (xm.length : Int)))) H'
        rw [decide_eq_true (by omega)]
        exact hq H' (e5.same (s14.trans e))
end
end K03
set_option Elab.async false
set_option linter.all false
set_option maxRecDepth 100000
set_option maxHeartbeats 4000000
set_option exponentiation.threshold 4000
/-! powers -/
namespace K03
open PySem PySem.Spec PyProof.Rows L2
theorem sq_mul {p q : Poly} (hp : MP p) (hq : MP q) : Eqv (rmul (rpow p 2) (rpow q 2)) (rpow (rmul p q) 2) := by
  have h1 : Eqv (rmul (rpow p 2) (rpow q 2)) (rmul (rmul p p) (rmul q q)) := eqv_mul (pow_two' p) (pow_two' q)
  have h2 : Eqv (rmul (rmul p p) (rmul q q)) (rmul p (rmul p (rmul q q))) := mul_assoc' hp hp (hq.mul hq)
  have h3 : Eqv (rmul p (rmul q q)) (rmul (rmul q p) q) := (mul_assoc' hp hq hq).symm.trans (eqv_mul (mul_comm' hp hq) (.refl q))
  have h4 : Eqv (rmul p (rmul p (rmul q q))) (rmul p (rmul q (rmul p q))) := eqv_mul (.refl p) (h3.trans (mul_assoc' hq hp hq))
  have h5 : Eqv (rmul p (rmul q (rmul p q))) (rmul (rmul p q) (rmul p q)) := (mul_assoc' hp hq (hp.mul hq)).symm
  exact (((h1.trans h2).trans h4).trans h5).trans (pow_two' _).symm
theorem sq_add {p q : Poly} (hp : MP p) (hq : MP q) : Eqv ((rpow p 2 ++ rpow q 2) ++ rmul [([], 2)] (rmul p q)) (rpow (p ++ q) 2) := fun φ => by
  rw [pow_two' (p ++ q) φ, app_mul p q (p ++ q) φ, ev_app, ev_app, ev_app, mul_app p p q φ, mul_app q p q φ, ev_app, ev_app, pow_two' p φ, pow_two' q φ, scal_mul (hp.mul hq), mul_comm' hq hp φ]
  omega
theorem sq_sub {p q : Poly} (hp : MP p) (hq : MP q) : Eqv (rpow p 2 ++ rneg (rpow q 2)) (rmul (p ++ q) (p ++ rneg q)) := fun φ => by
  rw [app_mul p q (p ++ rneg q) φ, ev_app, ev_app, ev_rneg, mul_app p p (rneg q) φ, mul_app q p (rneg q) φ, ev_app, ev_app, pow_two' p φ, pow_two' q φ, mul_neg p q φ, mul_neg q q φ, ev_rneg, ev_rneg, mul_comm' hq hp φ]
  omega
section
variable {P : Program} {w : World} {K : PySem.W.Frag} {mg : Str → Option Value} {base : Heap} {f : Addr} {fd : FuncData}
def spPowers (K : PySem.W.Frag) : Sp := fun vs H Q _ => ∃ (T : Tp) (x y : V) (S : List Str) (p q : Poly), vs = [.ref T.t, x, y] ∧ Tape K T H ∧ S.length ≤ 1000 ∧ Dn K S p x H ∧ Dn K S q y H ∧ ∀ H', Dr K T H H' → Q (.bl true) H'
abbrev nPows : List Str := ["_law_tape_here", "_law_p", "_law_q", "_law_one", "_law_two", "_law_square"]
theorem scPows : FnScope nPows ["_law_tape_here", "_law_p", "_law_q"] (defScope (top 39)) := ⟨rfl, rfl, rfl, by decide +kernel, rfl, by decide +kernel, by decide +kernel⟩
theorem sp_pow {T : Tp} {E : Poly} {S : List Str} {l n k : Nat} (g : Gd S E l n) (hl1 : 1 ≤ l) (hn1 : 1 ≤ n) (hk : k ≤ 100) (hl : l ^ k ≤ 2000) (hn : n ^ k < 10 ^ 200) (hS : S.length ≤ 1000) : ∀ x y H1 (Q : VK), Tape K T H1 → ResH K E x H1 → y = .int (k : Nat) → (∀ v H2, Dr K T H1 H2 → Res K (rpow E k) v H2 → Q v H2) → spPower K [x, y] H1 Q E0 :=
  fun x y H1 Q t h e q => ⟨x, k, S, E, l, n, by rw [e], h, g, hl1, hn1, hk, hl, hn, hS, fun v H' s r => q v H' (.of t s) r⟩
theorem ok_pows (F : FnP K "_law_powers_right" 39 f fd) (L : Lib P w K mg base) (dr : FnC P w K mg base "_law_draw" ["_law_tape_here", "_law_many"] 2 (spDraw K)) : FnOk P w K mg base CX0 5 f fd ["_law_tape_here", "_law_p", "_law_q"] (spPowers K) := by
  have nd := scPows.nd
  refine F.ok scPows (fun vs H Q E h => ?_) (fun cdv A outer s H vs Q E hr h => ⟨_, PSs.nox (pss_cons (ps_set (i := 3) nd rfl (.inl rfl) (pe_call dr.ok (hr.mono (by decide)) (by rfl) dr.g dr.kp dr.b .nil pass0 (pa_cons (pv 0) (pa_cons pe_int pa_nil))))
    (pss_cons (ps_set (i := 4) nd rfl (.inl rfl) (pe_call dr.ok (hr.mono (by decide)) (by rfl) dr.g dr.kp dr.b .nil pass0 (pa_cons (pv 0) (pa_cons pe_int pa_nil))))
    (pss_cons (ps_if (pt_not (pt_val (pe_call L.alike.ok (hr.mono (by decide)) (by rfl) L.alike.g L.alike.kp L.alike.b .nil pass0 (pa_cons (pe_call L.pow.ok hr (by rfl) L.pow.g L.pow.kp L.pow.b .nil pass0 (pa_cons (pv 1) (pa_cons (pe_op op_add (pv 3) (pv 4)) pa_nil)))
        (pa_cons (pe_call L.mul.ok hr (by rfl) L.mul.g L.mul.kp L.mul.b .nil pass0 (pa_cons (pe_call L.pow.ok hr (by rfl) L.pow.g L.pow.kp L.pow.b .nil pass0 (pa_cons (pv 1) (pa_cons (pv 3) pa_nil))) (pa_cons (pe_callN0 (n := 0) L.pow.ok hr (by rfl) L.pow.g L.pow.kp L.powK pass0 (pk_cons (pv 4) (pk_cons (pv 1) pk_nil))) pa_nil))) pa_nil))))) (pss_one (ps_ret pe_bl)) pss_nil)
    (pss_cons (ps_if (pt_not (pt_val (pe_call L.alike.ok (hr.mono (by decide)) (by rfl) L.alike.g L.alike.kp L.alike.b .nil pass0 (pa_cons (pe_call L.pow.ok hr (by rfl) L.pow.g L.pow.kp L.pow.b .nil pass0 (pa_cons (pe_call L.mul.ok hr (by rfl) L.mul.g L.mul.kp L.mul.b .nil pass0 (pa_cons (pv 1) (pa_cons (pv 2) pa_nil))) (pa_cons pe_int pa_nil)))
        (pa_cons (pe_call L.mul.ok hr (by rfl) L.mul.g L.mul.kp L.mul.b .nil pass0 (pa_cons (pe_call L.pow.ok hr (by rfl) L.pow.g L.pow.kp L.pow.b .nil pass0 (pa_cons (pv 1) (pa_cons pe_int pa_nil))) (pa_cons (pe_call L.pow.ok hr (by rfl) L.pow.g L.pow.kp L.pow.b .nil pass0 (pa_cons (pv 2) (pa_cons pe_int pa_nil))) pa_nil))) pa_nil))))) (pss_one (ps_ret pe_bl)) pss_nil)
    (pss_cons (ps_if (PW.pt (pw_or (pt_not (pt_val (pe_call L.alike.ok (hr.mono (by decide)) (by rfl) L.alike.g L.alike.kp L.alike.b .nil pass0 (pa_cons (pe_call L.pow.ok hr (by rfl) L.pow.g L.pow.kp L.pow.b .nil pass0 (pa_cons (pv 1) (pa_cons pe_int pa_nil))) (pa_cons (pe_call L.con.ok hr (by rfl) L.con.g L.con.kp L.con.b .nil pass0 (pa_cons pe_int pa_nil)) pa_nil)))))
        (pw_or1 (pt_not (pt_val (pe_call L.alike.ok (hr.mono (by decide)) (by rfl) L.alike.g L.alike.kp L.alike.b .nil pass0 (pa_cons (pe_call L.pow.ok hr (by rfl) L.pow.g L.pow.kp L.pow.b .nil pass0 (pa_cons (pe_call L.handed.ok (hr.mono (by decide)) (by rfl) L.handed.g L.handed.kp L.handed.b .nil pass0 (pa_cons (pv 0) (pa_cons (pv 1) pa_nil))) (pa_cons pe_int pa_nil))) (pa_cons (pv 1) pa_nil)))))))) (pss_one (ps_ret pe_bl)) pss_nil)
    (pss_cons (ps_set (i := 5) nd rfl (.inl rfl) (pe_call L.add.ok hr (by rfl) L.add.g L.add.kp L.add.b .nil pass0 (pa_cons (pe_call L.add.ok hr (by rfl) L.add.g L.add.kp L.add.b .nil pass0 (pa_cons (pe_call L.pow.ok hr (by rfl) L.pow.g L.pow.kp L.pow.b .nil pass0 (pa_cons (pv 1) (pa_cons pe_int pa_nil))) (pa_cons (pe_call L.pow.ok hr (by rfl) L.pow.g L.pow.kp L.pow.b .nil pass0 (pa_cons (pv 2) (pa_cons pe_int pa_nil))) pa_nil)))
        (pa_cons (pe_call L.mul.ok hr (by rfl) L.mul.g L.mul.kp L.mul.b .nil pass0 (pa_cons (pe_call L.con.ok hr (by rfl) L.con.g L.con.kp L.con.b .nil pass0 (pa_cons pe_int pa_nil)) (pa_cons (pe_call L.mul.ok hr (by rfl) L.mul.g L.mul.kp L.mul.b .nil pass0 (pa_cons (pv 1) (pa_cons (pv 2) pa_nil))) pa_nil))) pa_nil))))
    (pss_cons (ps_if (pt_not (pt_val (pe_call L.alike.ok (hr.mono (by decide)) (by rfl) L.alike.g L.alike.kp L.alike.b .nil pass0 (pa_cons (pe_call L.pow.ok hr (by rfl) L.pow.g L.pow.kp L.pow.b .nil pass0 (pa_cons (pe_call L.add.ok hr (by rfl) L.add.g L.add.kp L.add.b .nil pass0 (pa_cons (pv 1) (pa_cons (pv 2) pa_nil))) (pa_cons pe_int pa_nil))) (pa_cons (pv 5) pa_nil))))) (pss_one (ps_ret pe_bl)) pss_nil)
    (pss_one (ps_ret (pe_call L.alike.ok (hr.mono (by decide)) (by rfl) L.alike.g L.alike.kp L.alike.b .nil pass0 (pa_cons (pe_call L.mul.ok hr (by rfl) L.mul.g L.mul.kp L.mul.b .nil pass0 (pa_cons (pe_call L.add.ok hr (by rfl) L.add.g L.add.kp L.add.b .nil pass0 (pa_cons (pv 1) (pa_cons (pv 2) pa_nil))) (pa_cons (pe_call L.less.ok hr (by rfl) L.less.g L.less.kp L.less.b .nil pass0 (pa_cons (pv 1) (pa_cons (pv 2) pa_nil))) pa_nil)))
        (pa_cons (pe_call L.less.ok hr (by rfl) L.less.g L.less.kp L.less.b .nil pass0 (pa_cons (pe_call L.pow.ok hr (by rfl) L.pow.g L.pow.kp L.pow.b .nil pass0 (pa_cons (pv 1) (pa_cons pe_int pa_nil))) (pa_cons (pe_call L.pow.ok hr (by rfl) L.pow.g L.pow.kp L.pow.b .nil pass0 (pa_cons (pv 2) (pa_cons pe_int pa_nil))) pa_nil))) pa_nil)))))))))))), ?_⟩)
  · obtain ⟨T, x, y, S, p, q, rfl, _⟩ := h; rfl
  · obtain ⟨T, x, y, S, p, q, rfl, ht, hS, hx, hy, hq⟩ := h
    have st : ∀ {E}, Stay K T (Res K E) := stay_res
    have sh : ∀ {E}, Stay K T (ResH K E) := stay_resH
    have b1 : 1 ≤ big := by decide
    have n1 : big < 2 ^ 3000 := by decide +kernel
    have n2 : big ^ 2 < 2 ^ 3000 := by decide +kernel
    have n2' : big * big < 2 ^ 3000 := by decide +kernel
    refine ⟨_, rfl, T, 3, rfl, ht, by decide, by decide, fun a H1 d1 a0 a1 => ?_⟩
    refine ⟨_, rfl, T, 3, rfl, d1.2.2, by decide, by decide, fun b H2 d2 b0 b1' => ?_⟩
    obtain ⟨a, rfl⟩ := Int.eq_ofNat_of_zero_le a0
    obtain ⟨b, rfl⟩ := Int.eq_ofNat_of_zero_le b0
    have a2 : a ≤ 2 := by omega
    have b2 : b ≤ 2 := by omega
    have dd := d1.trans d2
    have t2 := dd.2.2
    have r1 := hx.res.keep dd.2.1
    have r2 := hy.res.keep dd.2.1
    have pw : ∀ {m k : Nat}, 1 ≤ m → ∀ j, j ≤ k → m ^ j ≤ m ^ k := fun h j hj => Nat.pow_le_pow_right h hj
    have ga : ∀ k, k ≤ 2 → Gd S (rpow p k) (6 ^ 2) (big ^ 2) := fun k hk => (hx.gd.pow k).mono (pw (by decide) k hk) (pw b1 k hk)
    have six : ∀ k, k ≤ 4 → 6 ^ k ≤ 2000 := fun k hk => Nat.le_trans (pw (by decide) k hk) (by decide)
    have bg : ∀ k, k ≤ 4 → big ^ k < 10 ^ 200 := fun k hk => Nat.lt_of_le_of_lt (pw b1 k hk) (by decide)
    have i2 : ∀ {σ H}, EvR K T (tC (.int 2)) σ H fun v _ => v = .int ((2 : Nat) : Int) := fun {σ H} => er_int 2
    have sI : ∀ {c : Int}, Stay K T fun v _ => v = .int c := fun {c} v H H' h _ => h
    refine skip_if (eb_not (eb_alike (er_call2 (er_h (er_var rfl r1 st)) (show EvR K T (tOp (rI0 fun i j => .int (i + j)) (tVar 3) (tVar 4)) _ H2 fun v _ => v = .int ((a + b : Nat) : Int) from fun H3 d3 Q k => ⟨_, rfl, _, rfl, _, _, rfl, rfl, k _ H3 (Dr.refl d3.2.2) (by rfl)⟩) sh (sp_pow hx.gd (by decide) b1 (by omega) (six _ (by omega)) (bg _ (by omega)) hS))
      (er_call2 (er_h (er_call2 (er_h (er_var rfl r1 st)) (er_var (Φ := fun v _ => v = .int (a : Nat)) rfl rfl sI) sh (sp_pow hx.gd (by decide) b1 (by omega) (six _ (by omega)) (bg _ (by omega)) hS))) (er_h (er_call2K (er_var (Φ := fun v _ => v = .int (b : Nat)) rfl rfl sI) (er_h (er_var rfl r1 st)) sI fun u v H Q t hu hv k => sp_pow hx.gd (by decide) b1 (by omega) (six _ (by omega)) (bg _ (by omega)) hS v u H Q t hv hu k)) sh (sp_mul (ga a a2) (ga b b2) hS (by decide) (by decide) n2 n2)) (pow_add' hx.gd.mp b a).symm (hx.gd.pow (a + b)) (six _ (by omega)) hS)) (Dr.refl t2) fun H3 d3 => ?_
    have gm := hx.gd.mul hy.gd
    have p2 : ∀ {σ H} {i : Nat} {v : V} {E : Poly}, σ[i]? = some (some v) → Res K E v H → Gd S E 6 big → EvR K T (tCall (spPower K) [] E0 (tCons (tVar i) (tCons (tC (.int 2)) tNil))) σ H (Res K (rpow E 2)) := fun {σ H i v E} h r g => er_call2 (er_h (er_var h r st)) (er_int 2) sh fun x y H1 Q t h1 e k => sp_pow g (by decide) b1 (k := 2) (by decide) (by decide) (by decide) hS x y H1 Q t h1 e k
    have pq : ∀ {σ H} {i j : Nat} {u v : V}, σ[i]? = some (some u) → σ[j]? = some (some v) → Res K p u H → Res K q v H → EvR K T (tCall (spMul K) [] E0 (tCons (tVar i) (tCons (tVar j) tNil))) σ H (Res K (rmul p q)) := fun {σ H i j u v} hi hj r r' => er_call2 (er_h (er_var hi r st)) (er_h (er_var hj r' st)) sh (sp_mul hx.gd hy.gd hS (by decide) (by decide) n1 n1)
    refine skip_if (eb_not (eb_alike (er_call2 (er_h (pq rfl rfl r1 r2)) (er_int 2) sh fun x y H1 Q t h1 e k => sp_pow gm (by decide) (by decide) (k := 2) (by decide) (by decide) (by decide) hS x y H1 Q t h1 e k)
      (er_call2 (er_h (p2 rfl r1 hx.gd)) (er_h (p2 rfl r2 hy.gd)) sh (sp_mul (hx.gd.pow 2) (hy.gd.pow 2) hS (by decide) (by decide) n2 n2)) (sq_mul hx.gd.mp hy.gd.mp) (gm.pow 2) (by decide) hS)) d3 fun H4 d4 => ?_
    refine skip_if (eb_or (eb_not (eb_alike (er_call2 (er_h (er_var rfl r1 st)) (er_int 0) sh fun x y H1 Q t h1 e k => sp_pow hx.gd (by decide) b1 (k := 0) (by decide) (by decide) (by decide) hS x y H1 Q t h1 e k) (er_const (er_int 1) (by decide)) (Eqv.refl _) (hx.gd.pow 0) (by decide) hS))
      (eb_not (eb_alike (er_call2 (er_handed rfl rfl r1.h) (er_int 1) sh fun x y H1 Q t h1 e k => sp_pow hx.gd (by decide) b1 (k := 1) (by decide) (by decide) (by decide) hS x y H1 Q t h1 e k) (er_var rfl r1 st) (pow_one' p).symm (hx.gd.pow 1) (by decide) hS))) (d3.trans d4) fun H5 d5 => ?_
    have gsq := ((hx.gd.pow 2).app (hy.gd.pow 2)).app ((Gd.num (S := S) 2 (n := 2) (by decide)).mul gm)
    refine set_er (er_call2 (er_h (er_call2 (er_h (p2 rfl r1 hx.gd)) (er_h (p2 rfl r2 hy.gd)) sh (sp_add id (hx.gd.pow 2) (hy.gd.pow 2) (by decide) (by decide)))) (er_h (er_call2 (er_h (er_const (er_int 2) (by decide))) (er_h (pq rfl rfl r1 r2)) sh (sp_mul (Gd.num (S := S) 2 (n := 2) (by decide)) gm hS (by decide) (by decide) (by decide) n2'))) sh (sp_add id ((hx.gd.pow 2).app (hy.gd.pow 2)) ((Gd.num (S := S) 2 (n := 2) (by decide)).mul gm) (by decide) (by decide))) ((d3.trans d4).trans d5) fun v5 H6 d6 r5 => ?_
    have d26 := ((d3.trans d4).trans d5).trans d6
    have t6 := d26.2.2
    have q1 := r1.keep d26.2.1
    have q2 := r2.keep d26.2.1
    have gpq := hx.gd.app hy.gd
    have n3 : big + big < 2 ^ 3000 := by decide +kernel
    refine skip_if (eb_not (eb_alike (er_call2 (er_h (er_call2 (er_h (er_var rfl q1 st)) (er_h (er_var rfl q2 st)) sh (sp_add id hx.gd hy.gd (by decide) (by decide)))) (er_int 2) sh fun x y H1 Q t h1 e k => sp_pow gpq (by decide) (by decide) (k := 2) (by decide) (by decide) (by decide) hS x y H1 Q t h1 e k) (er_var rfl r5 st) (sq_add hx.gd.mp hy.gd.mp) (gpq.pow 2) (by decide) hS)) (Dr.refl t6) fun H7 d7 => ?_
    refine ret_er (eb_alike (er_call2 (er_h (er_call2 (er_h (er_var rfl q1 st)) (er_h (er_var rfl q2 st)) sh (sp_add id hx.gd hy.gd (by decide) (by decide)))) (er_h (er_call2 (er_h (er_var rfl q1 st)) (er_h (er_var rfl q2 st)) sh (sp_add rneg hx.gd hy.gd (by decide) (by decide)))) sh (sp_mul gpq (hx.gd.app hy.gd.neg) hS (by decide) (by decide) n3 n3))
      (er_call2 (er_h (p2 rfl q1 hx.gd)) (er_h (p2 rfl q2 hy.gd)) sh (sp_add rneg (hx.gd.pow 2) (hy.gd.pow 2) (by decide) (by decide))) (sq_sub hx.gd.mp hy.gd.mp) (gpq.mul (hx.gd.app hy.gd.neg)) (by decide) hS) d7 fun v H8 d8 ev => ?_
    rw [ev]
    exact hq H8 (((dd.trans d26).trans d7).trans d8)
end
end K03
set_option Elab.async false
set_option linter.all false
set_option maxRecDepth 100000
set_option maxHeartbeats 4000000
set_option exponentiation.threshold 4000
/-! numbers -/
namespace K03
open PySem PySem.Spec PyProof.Rows L2
theorem tdeg_ins {n : Str} {k : Int} (hk : 1 ≤ k) : ∀ {m : Mono}, (∀ q ∈ m, 1 ≤ q.2) → tdeg (ins n k m) = tdeg m + k.toNat
  | [], _ => by show k.toNat + 0 = 0 + k.toNat; omega
  | p :: r, h => by
    have hp := h p (.head _)
    have hr := fun q hq => h q (.tail _ hq)
    show tdeg (if p.1 = n then (p.1, p.2 + k) :: r else if nlt n p.1 then (n, k) :: p :: r else p :: ins n k r) = _
    by_cases h1 : p.1 = n
    · rw [if_pos h1]
      show (p.2 + k).toNat + tdeg r = p.2.toNat + tdeg r + k.toNat
      omega
    · rw [if_neg h1]
      by_cases h2 : nlt n p.1
      · rw [if_pos h2]
        show k.toNat + (p.2.toNat + tdeg r) = p.2.toNat + tdeg r + k.toNat
        omega
      · rw [if_neg h2]
        show p.2.toNat + tdeg (ins n k r) = p.2.toNat + tdeg r + k.toNat
        rw [tdeg_ins hk hr]
        omega
theorem tdeg_mmul : ∀ {b a : Mono}, CanonM a → (∀ q ∈ b, 1 ≤ q.2) → tdeg (mmul a b) = tdeg a + tdeg b
  | [], a, _, _ => by show tdeg a = tdeg a + 0; omega
  | q :: b, a, ca, hb => by
    have hq := hb q (.head _)
    show tdeg (mmul (ins q.1 q.2 a) b) = tdeg a + (q.2.toNat + tdeg b)
    rw [tdeg_mmul (canon_ins hq ca) fun r hr => hb r (.tail _ hr), tdeg_ins hq ca.pos]
    omega
def TD (d : Nat) (E : Poly) : Prop := ∀ t ∈ E, tdeg t.1 ≤ d
theorem TD.app {d : Nat} {E F : Poly} (h : TD d E) (h' : TD d F) : TD d (E ++ F) := fun t ht => (List.mem_append.mp ht).elim (h t) (h' t)
theorem TD.neg {d : Nat} {E : Poly} (h : TD d E) : TD d (rneg E) := fun t ht => by
  obtain ⟨s, hs, rfl⟩ := List.mem_map.mp ht
  exact h s hs
theorem TD.mul {d e : Nat} {E F : Poly} (h : TD d E) (h' : TD e F) (hE : MP E) (hF : MP F) : TD (d + e) (rmul E F) := fun t ht => by
  obtain ⟨s, hs, ht⟩ := List.mem_flatMap.mp ht
  obtain ⟨u, hu, rfl⟩ := List.mem_map.mp ht
  show tdeg (mmul s.1 u.1) ≤ _
  rw [tdeg_mmul (hE s hs) (hF u hu).pos]
  exact Nat.add_le_add (h s hs) (h' u hu)
theorem TD.pow {d : Nat} {E : Poly} (h : TD d E) (hE : MP E) : ∀ k, TD (d * k) (rpow E k)
  | 0 => fun t ht => by
    have e : t = ([], 1) := by simpa [rpow] using ht
    rw [e]; exact Nat.zero_le _
  | k + 1 => by
    have e : d * (k + 1) = d + d * k := by rw [Nat.mul_succ]; omega
    rw [e]
    exact h.mul (h.pow hE k) hE (hE.pow k)
theorem TD.mono {d e : Nat} {E : Poly} (h : TD d E) (he : d ≤ e) : TD e E := fun t ht => Nat.le_trans (h t ht) he
theorem tdeg_q : ∀ {m : Mono} {q : Str × Int}, q ∈ m → q.2.toNat ≤ tdeg m
  | p :: r, q, h => by
    rcases List.mem_cons.mp h with rfl | h
    · show q.2.toNat ≤ q.2.toNat + tdeg r; omega
    · have := tdeg_q h
      show q.2.toNat ≤ p.2.toNat + tdeg r; omega
theorem putK_len' (c : List (Key × V)) (k : Key) (x : V) : (putK c k x).length ≤ c.length + 1 := by
  unfold putK
  split
  · rw [List.length_map]; omega
  · rw [List.length_append]; exact Nat.le_refl _
theorem SpotAt.dr {K : PySem.W.Frag} {T : Tp} {H H' : Hp} {a : Addr} {S : List Str} {s : Str → Int} (h : SpotAt H a S s) (d : Dr K T H H') (n : a ≠ T.t) : SpotAt H' a S s := let ⟨kvs, h1, h2⟩ := h; ⟨kvs, d.1 _ _ h1 n, h2⟩
theorem pval_app (s : Str → Int) (p q : Poly) : pval s (p ++ q) = pval s p + pval s q := ev_app _ p q
theorem pval_neg (s : Str → Int) (p : Poly) : pval s (rneg p) = - pval s p := ev_rneg _ p
/-- the number at a place -/
def spotOf (kvs : List (Key × V)) (n : Str) : Int := match valV kvs (.inr n) with
  | some (.int i) => if i.natAbs ≤ 4 then i else 0
  | _ => 0
theorem spotOf_small (kvs : List (Key × V)) (n : Str) : (spotOf kvs n).natAbs ≤ 4 := by
  unfold spotOf
  split
  · split
    · assumption
    · decide
  · decide
section
variable {P : Program} {w : World} {K : PySem.W.Frag} {mg : Str → Option Value} {base : Heap} {f : Addr} {fd : FuncData}
theorem sp_at {H : Hp} {E : Poly} {v : V} {a : Addr} {S : List Str} {s : Str → Int} {l n d : Nat} {Q : VK} (h : Res K E v H) (g : Gd S E l n) (td : TD d E) (hd : d ≤ 1000) (hs : SpotAt H a S s) (q : Q (.int (pval s E)) H) : spAt K [v, .ref a] H Q E0 := by
  obtain ⟨R, hv, c, e⟩ := h
  refine ⟨v, a, R, S, s, rfl, dpP (.inl hv), Over.of mlt_irr c e g.ov, hs, fun t ht r hr => ?_, ?_⟩
  · have hp := (c.mono t ht).pos r hr
    have hk : t.1 ∈ keys E := keys_sub mlt_irr c e t.1 (List.mem_map.mpr ⟨t, ht, rfl⟩)
    obtain ⟨u, hu, eu⟩ := List.mem_map.mp hk
    have h1 := td u hu
    rw [eu] at h1
    have h2 := tdeg_q hr
    have h3 : r.2.toNat ≤ 1000 := by omega
    refine ⟨by omega, ?_⟩
    have h4 : r.2 ≤ 1000 := by omega
    exact Int.lt_of_le_of_lt h4 (by decide)
  · have : pval s R = pval s E := e _
    rw [this]
    exact q
theorem call_at {σ : L2.St} {i j : Nat} {H : Hp} {E : Poly} {v : V} {a : Addr} {S : List Str} {s : Str → Int} {l n d : Nat} {Q : VK} (h0 : σ[i]? = some (some v)) (h1 : σ[j]? = some (some (.ref a))) (h : Res K E v H) (g : Gd S E l n) (td : TD d E) (hd : d ≤ 1000) (hs : SpotAt H a S s) (q : Q (.int (pval s E)) H) : tCall (spAt K) [] E0 (tCons (tVar i) (tCons (tVar j) tNil)) σ H Q := ⟨v, h0, _, h1, sp_at h g td hd hs q⟩
theorem call_atR {σ : L2.St} {j : Nat} {T : Tp} {te : TE} {H : Hp} {E : Poly} {a : Addr} {S : List Str} {s : Str → Int} {l n d : Nat} {Q : VK} (hr : EvR K T te σ H (Res K E)) (t : Tape K T H) (h1 : σ[j]? = some (some (.ref a))) (g : Gd S E l n) (td : TD d E) (hd : d ≤ 1000) (hs : SpotAt H a S s) (na : a ≠ T.t) (q : ∀ H2, Dr K T H H2 → Q (.int (pval s E)) H2) : tCall (spAt K) [] E0 (tCons te (tCons (tVar j) tNil)) σ H Q := hr H (Dr.refl t) _ fun v H2 d2 e => ⟨_, h1, sp_at e g td hd (hs.dr d2 na) (q H2 d2)⟩
def spNumbers (K : PySem.W.Frag) : Sp := fun vs H Q _ => ∃ (T : Tp) (sl : Addr) (x y : V) (S : List Str) (p q : Poly), vs = [.ref T.t, .ref sl, x, y] ∧ Tape K T H ∧ SqL K H sl (S.map V.str) ∧ S.length ≤ 1000 ∧ Dn K S p x H ∧ Dn K S q y H ∧ TD 5 p ∧ TD 5 q ∧ ∀ H', Dr K T H H' → Q (.bl true) H'
abbrev nNums : List Str := ["_law_tape_here", "_law_signs_here", "_law_p", "_law_q", "_law_turn", "_law_spot", "_law_sign", "_law_one", "_law_two", "_law_due", "_law_told"]
theorem scNums : FnScope nNums ["_law_tape_here", "_law_signs_here", "_law_p", "_law_q"] (defScope (top 40)) := ⟨rfl, rfl, rfl, by decide +kernel, rfl, by decide +kernel, by decide +kernel⟩
theorem ok_nums (F : FnP K "_law_numbers_right" 40 f fd) (L : Lib P w K mg base) (dr : FnC P w K mg base "_law_draw" ["_law_tape_here", "_law_many"] 2 (spDraw K)) (at_ : FnC P w K mg base "_law_at" ["_law_poly_here", "_law_spot"] 1 (spAt K)) (gR : mg "range" = none) : FnOk P w K mg base CX0 5 f fd ["_law_tape_here", "_law_signs_here", "_law_p", "_law_q"] (spNumbers K) := by
  have nd := scNums.nd
  refine F.ok scNums (fun vs H Q E h => ?_) (fun cdv A outer s H vs Q E hr h => ⟨_, PSs.nox (pss_cons (ps_for PassesOwn.never rfl (pi_range1 (by rfl) gR (pa_cons pe_int pa_nil)) (pg_name (i := 4) nd rfl (.inl rfl))
      (pss_cons (ps_set (i := 5) nd rfl (.inl rfl) pe_dnewK)
      (pss_cons (ps_for PassesOwn.never rfl (pi_seq (pv 1)) (pg_name (i := 6) nd rfl (.inl rfl)) (pss_one (ps_dput (hu_of hr) (pv 5) (pv 6) (pe_op op_sub (pe_call dr.ok (hr.mono (by decide)) (by rfl) dr.g dr.kp dr.b .nil pass0 (pa_cons (pv 0) (pa_cons pe_int pa_nil))) pe_int) rfl)))
      (pss_cons (ps_set (i := 7) nd rfl (.inl rfl) (pe_call at_.ok (hr.mono (by decide)) (by rfl) at_.g at_.kp at_.b .nil pass0 (pa_cons (pv 2) (pa_cons (pv 5) pa_nil))))
      (pss_cons (ps_set (i := 8) nd rfl (.inl rfl) (pe_call at_.ok (hr.mono (by decide)) (by rfl) at_.g at_.kp at_.b .nil pass0 (pa_cons (pv 3) (pa_cons (pv 5) pa_nil))))
      (pss_cons (ps_for PassesOwn.never rfl (pi_seq (pe_lst (pa_cons (pe_tup (pa_cons (pe_op op_add (pv 7) (pv 8)) (pa_cons (pe_call L.add.ok hr (by rfl) L.add.g L.add.kp L.add.b .nil pass0 (pa_cons (pv 2) (pa_cons (pv 3) pa_nil))) pa_nil)))
          (pa_cons (pe_tup (pa_cons (pe_op op_sub (pv 7) (pv 8)) (pa_cons (pe_call L.less.ok hr (by rfl) L.less.g L.less.kp L.less.b .nil pass0 (pa_cons (pv 2) (pa_cons (pv 3) pa_nil))) pa_nil)))
          (pa_cons (pe_tup (pa_cons (pe_op op_mulW (pv 7) (pv 8)) (pa_cons (pe_call L.mul.ok hr (by rfl) L.mul.g L.mul.kp L.mul.b .nil pass0 (pa_cons (pv 2) (pa_cons (pv 3) pa_nil))) pa_nil))) pa_nil)))))
        (pg_seq rfl (pgs_cons (pg_name (i := 9) nd rfl (.inl rfl)) (pgs_cons (pg_name (i := 10) nd rfl (.inl rfl)) pgs_nil)))
        (pss_one (ps_if (pt_cmpR op_ne (pe_call at_.ok (hr.mono (by decide)) (by rfl) at_.g at_.kp at_.b .nil pass0 (pa_cons (pv 10) (pa_cons (pv 5) pa_nil))) (pv 9) (nomark _)) (pss_one (ps_ret pe_bl)) pss_nil)))
      (pss_one (ps_if (pt_cmpR op_ne (pe_call at_.ok (hr.mono (by decide)) (by rfl) at_.g at_.kp at_.b .nil pass0 (pa_cons (pe_call L.pow.ok hr (by rfl) L.pow.g L.pow.kp L.pow.b .nil pass0 (pa_cons (pv 2) (pa_cons pe_int pa_nil))) (pa_cons (pv 5) pa_nil))) (pe_op op_mulW (pe_op op_mulW (pv 7) (pv 7)) (pv 7)) (nomark _)) (pss_one (ps_ret pe_bl)) pss_nil))))))))
    (pss_one (ps_ret pe_bl))), ?_⟩)
  · obtain ⟨T, sl, x, y, S, p, q, rfl, _⟩ := h; rfl
  · obtain ⟨T, sl, x, y, S, p, q, rfl, ht, hsl, hS, hx, hy, tp, tq, hq⟩ := h
    refine ⟨3, rfl, by decide, by decide, for_range (lo := 0) (n := 3) (fun i σ H' => ∃ x4 x5 x6 x7 x8 x9 x10, σ = [some (.ref T.t), some (.ref sl), some x, some y, x4, x5, x6, x7, x8, x9, x10] ∧ Dr K T H H') ?_ ?_ ?_⟩
    · exact ⟨_, _, _, _, _, _, _, rfl, Dr.refl ht⟩
    · rintro i σ H1 hi ⟨x4, x5, x6, x7, x8, x9, x10, rfl, d1⟩
      intro sp hsp
      have hsp0 : H sp = none := none_dr ht d1 hsp
      have nst : sp ≠ T.t := fun z => by obtain ⟨k, hk⟩ := ht.there; rw [z, hk] at hsp0; cases hsp0
      refine ⟨_, rfl, sl, rfl, for_seq (.inl (sqL_keep d1.2.1 hsl)) (keep_new hsp) (fun j σ H' => ∃ x6 kvs, σ = [some (.ref T.t), some (.ref sl), some x, some y, some (.int (0 + (i : Int))), some (.ref sp), x6, x7, x8, x9, x10] ∧ Dr K T H H' ∧ Keep H1 H' ∧ H' sp = some (.dK kvs) ∧ kvs.length ≤ j ∧ ∀ n ∈ S.take j, ∃ v : Int, valV kvs (.inr n) = some (.int v) ∧ v.natAbs ≤ 4) ?_ ?_ ?_ ?_⟩
      · exact fun _ => ⟨_, [], rfl, d1.same (same_new hsp), keep_new hsp, upd_same, Nat.le_refl _, fun n h => by simp at h⟩
      · rintro j σ H' ⟨_, _, _, _, k, _⟩
        exact k
      · rintro j u σ H' hz hj hu ⟨x6, kvs, rfl, d2, k2, hk, hlen, hval⟩
        rw [List.getElem?_map] at hu
        obtain ⟨n, hn, rfl⟩ := Option.map_eq_some_iff.mp hu
        refine ⟨_, rfl, T, 9, rfl, d2.2.2, by decide, by decide, fun d H3 d3 d0 d9 => ⟨_, _, rfl, rfl, ?_⟩⟩
        have hk3 := d3.1 _ _ hk nst
        rw [List.length_map] at hz
        have hjl : j < S.length := by rw [List.length_map] at hj; exact hj
        refine ⟨_, rfl, _, rfl, sp, _, rfl, .inl ⟨_, .inr n, hk3, rfl, (by omega), rfl⟩, ?_⟩
        refine ⟨_, _, rfl, (d2.trans d3).mut ht hsp0, (k2.trans d3.2.1).trans (keep_soft hk3 True.intro), upd_same, ?_, fun m hm => ?_⟩
        · exact Nat.le_trans (putK_len' kvs _ _) (Nat.succ_le_succ hlen)
        · rw [valV_put]
          by_cases e : (Sum.inr m : Key) = Sum.inr n
          · rw [if_pos e]
            exact ⟨d - 4, rfl, by omega⟩
          · rw [if_neg e]
            rw [take_at hn, List.mem_append] at hm
            rcases hm with hm | hm
            · exact hval m hm
            · simp at hm
              exact absurd (by rw [hm]) e
      · rintro σ H3 ⟨x6, kvs, rfl, d3, k3, hk, hlen, hval⟩
        rw [List.length_map, List.take_length] at hval
        have hspot : SpotAt H3 sp S (spotOf kvs) := ⟨kvs, hk, fun n hn => by
          obtain ⟨v, e, hv⟩ := hval n hn
          refine ⟨?_, spotOf_small kvs n⟩
          have : spotOf kvs n = v := by unfold spotOf; rw [e]; exact if_pos hv
          rw [e, this]⟩
        have hsm := spotOf_small kvs
        generalize spotOf kvs = s at hspot hsm
        have t3 := d3.2.2
        have r1 := hx.res.keep d3.2.1
        have r2 := hy.res.keep d3.2.1
        have b1 : (pval s p).natAbs < 2 ^ 200 := Nat.lt_of_le_of_lt (Nat.le_trans (pval_small hsm tp) (Nat.mul_le_mul_right _ hx.gd.nr)) (by decide +kernel)
        have b2 : (pval s q).natAbs < 2 ^ 200 := Nat.lt_of_le_of_lt (Nat.le_trans (pval_small hsm tq) (Nat.mul_le_mul_right _ hy.gd.nr)) (by decide +kernel)
        have n1 : big < 2 ^ 3000 := by decide +kernel
        refine call_at rfl rfl r1 hx.gd tp (by decide) hspot ?_
        refine call_at rfl rfl r2 hy.gd tq (by decide) hspot ?_
        refine ⟨_, rfl, _, rfl, _, _, rfl, rfl, _, rfl, _, rfl, sp_add id hx.gd hy.gd (by decide) (by decide) _ _ _ _ t3 r1.h r2.h fun v1 H4 d4 e1 => ⟨(by show 2 ≤ sizeLine; decide), fun a1 ha1 => ?_⟩⟩
        have D1 : Dr K T H3 (upd H4 a1 (.tup [.int (pval s p + pval s q), v1])) := d4.same (same_new ha1)
        refine ⟨_, rfl, _, rfl, _, _, rfl, rfl, _, rfl, _, rfl, sp_add rneg hx.gd hy.gd (by decide) (by decide) _ _ _ _ D1.2.2 (r1.keep D1.2.1).h (r2.keep D1.2.1).h fun v2 H5 d5 e2 => ⟨(by show 2 ≤ sizeLine; decide), fun a2 ha2 => ?_⟩⟩
        have D2 : Dr K T (upd H4 a1 (.tup [.int (pval s p + pval s q), v1])) (upd H5 a2 (.tup [.int (pval s p - pval s q), v2])) := d5.same (same_new ha2)
        have D12 := D1.trans D2
        refine ⟨_, rfl, _, rfl, _, _, rfl, rfl, wide_mul b1 b2 (by decide) (by decide) (by decide), _, rfl, _, rfl, sp_mul hx.gd hy.gd hS (by decide) (by decide) n1 n1 _ _ _ _ D12.2.2 (r1.keep D12.2.1).h (r2.keep D12.2.1).h fun v3 H6 d6 e3 => ⟨(by show 2 ≤ sizeLine; decide), fun a3 ha3 => ?_⟩⟩
        have D3 : Dr K T (upd H5 a2 (.tup [.int (pval s p - pval s q), v2])) (upd H6 a3 (.tup [.int (pval s p * pval s q), v3])) := d6.same (same_new ha3)
        refine ⟨(by show 3 ≤ sizeLine; decide), fun l hl => ?_⟩
        have D4 : Same (upd H6 a3 (.tup [.int (pval s p * pval s q), v3])) (upd (upd H6 a3 (.tup [.int (pval s p * pval s q), v3])) l (.lst [.ref a1, .ref a2, .ref a3])) := same_new hl
        have DD := (D12.trans D3).same D4
        have hspL := hspot.dr DD nst
        have hlL : upd (upd H6 a3 (.tup [.int (pval s p * pval s q), v3])) l (.lst [.ref a1, .ref a2, .ref a3]) l = some (.lst [.ref a1, .ref a2, .ref a3]) := upd_same
        have f1 : SqX K (upd (upd H6 a3 (.tup [.int (pval s p * pval s q), v3])) l (.lst [.ref a1, .ref a2, .ref a3])) a1 [.int (pval s (p ++ q)), v1] := by
          rw [pval_app]
          exact (SqX.keep (.inr (SqX.of_t upd_same)) ((D2.trans D3).same D4).2.1)
        have f2 : SqX K (upd (upd H6 a3 (.tup [.int (pval s p * pval s q), v3])) l (.lst [.ref a1, .ref a2, .ref a3])) a2 [.int (pval s (p ++ rneg q)), v2] := by
          rw [pval_app, pval_neg, ← Int.sub_eq_add_neg]
          exact (SqX.keep (.inr (SqX.of_t upd_same)) (D3.same D4).2.1)
        have f3 : SqX K (upd (upd H6 a3 (.tup [.int (pval s p * pval s q), v3])) l (.lst [.ref a1, .ref a2, .ref a3])) a3 [.int (pval s (rmul p q)), v3] := by
          rw [pval_mul s hx.gd.mp hy.gd.mp]
          exact (SqX.keep (.inr (SqX.of_t upd_same)) (.of D4))
        have k1 := ((Dr.of d4.2.2 (same_new (o := .tup [.int (pval s p + pval s q), v1]) ha1)).trans ((D2.trans D3).same D4)).2.1
        have k2 := ((Dr.of d5.2.2 (same_new (o := .tup [.int (pval s p - pval s q), v2]) ha2)).trans (D3.same D4)).2.1
        have k3 := (Keep.of (same_new (o := .tup [.int (pval s p * pval s q), v3]) ha3)).trans (.of D4)
        have e1' := e1.keep k1
        have e2' := e2.keep k2
        have e3' := e3.keep k3
        generalize upd (upd H6 a3 (.tup [.int (pval s p * pval s q), v3])) l (.lst [.ref a1, .ref a2, .ref a3]) = HL at DD hspL hlL f1 f2 f3 e1' e2' e3'
        have r1' := hx.res.keep (d3.trans DD).2.1
        refine ⟨l, rfl, for_seq (xs := [.ref a1, .ref a2, .ref a3]) (.inl (SqX.of_l hlL)) (Keep.refl _) (fun j σ H' => ∃ x9 x10, σ = [some (.ref T.t), some (.ref sl), some x, some y, some (.int (0 + (i : Int))), some (.ref sp), x6, some (.int (pval s p)), some (.int (pval s q)), x9, x10] ∧ H' = HL) ?_ ?_ ?_ ?_⟩
        · exact fun _ => ⟨_, _, rfl, rfl⟩
        · rintro j σ H' ⟨_, _, _, rfl⟩
          exact Keep.refl _
        · rintro j u σ H' hz hj hu ⟨x9, x10, rfl, rfl⟩
          have : j = 0 ∨ j = 1 ∨ j = 2 := by have : j < 3 := hj; omega
          rcases this with rfl | rfl | rfl
          · cases (Option.some.inj hu : V.ref a1 = u)
            refine ⟨a1, _, rfl, f1, rfl, _, _, rfl, _, _, rfl, rfl, ?_⟩
            refine call_at rfl rfl e1' (hx.gd.app hy.gd) ((tp.app tq).mono (by decide : 5 ≤ 10)) (by decide) hspL ?_
            exact ⟨_, rfl, rfl, false, by simp, _, _, rfl, rfl⟩
          · cases (Option.some.inj hu : V.ref a2 = u)
            refine ⟨a2, _, rfl, f2, rfl, _, _, rfl, _, _, rfl, rfl, ?_⟩
            refine call_at rfl rfl e2' (hx.gd.app hy.gd.neg) ((tp.app tq.neg).mono (by decide : 5 ≤ 10)) (by decide) hspL ?_
            exact ⟨_, rfl, rfl, false, by simp, _, _, rfl, rfl⟩
          · cases (Option.some.inj hu : V.ref a3 = u)
            refine ⟨a3, _, rfl, f3, rfl, _, _, rfl, _, _, rfl, rfl, ?_⟩
            refine call_at rfl rfl e3' (hx.gd.mul hy.gd) (tp.mul tq hx.gd.mp hy.gd.mp) (by decide) hspL ?_
            exact ⟨_, rfl, rfl, false, by simp, _, _, rfl, rfl⟩
        · rintro σ H' ⟨x9, x10, rfl, rfl⟩
          refine call_atR (er_call2 (er_h (er_var rfl r1' stay_res)) (er_int 3) stay_resH fun x y H1 Q t h1 e k => sp_pow hx.gd (by decide) (by decide) (k := 3) (by decide) (by decide) (by decide) hS x y H1 Q t h1 e k) DD.2.2 rfl (hx.gd.pow 3) (tp.pow hx.gd.mp 3) (by decide) hspL nst fun H8 d8 => ?_
          have b11 : (pval s p * pval s p).natAbs < 2 ^ 401 := by
            rw [Int.natAbs_mul]
            exact Nat.lt_of_le_of_lt (Nat.mul_le_mul (Nat.le_of_lt b1) (Nat.le_of_lt b1)) (by decide +kernel)
          refine ⟨_, rfl, _, rfl, _, _, rfl, rfl, wide_mul b1 b1 (by decide) (by decide) (by decide), _, rfl, _, _, rfl, rfl, wide_mul b11 b1 (by decide) (by decide) (by decide), rfl, false, ?_, ?_⟩
          · show V.bl (!decide (V.int (pval s (rpow p 3)) = V.int (pval s p * pval s p * pval s p))) = _
            rw [pval_cube s hx.gd.mp]
            simp
          · exact ⟨_, _, _, _, _, _, _, rfl, (d3.trans DD).trans d8⟩
    · rintro σ H1 ⟨x4, x5, x6, x7, x8, x9, x10, rfl, d1⟩
      exact hq H1 d1
end
end K03
set_option Elab.async false
set_option linter.all false
set_option maxRecDepth 100000
set_option maxHeartbeats 4000000
set_option exponentiation.threshold 4000
/-! the law -/
namespace K03
open PySem PySem.Spec PyProof.Rows L2
structure Lib3 (P : Program) (w : World) (K : PySem.W.Frag) (mg : Str → Option Value) (base : Heap) where
  tape : FnC P w K mg base "_law_tape" ["_law_script"] 1 (spTape K)
  signs : FnC P w K mg base "_law_signs" ["_law_tape_here"] 3 (spSigns K)
  table : FnC P w K mg base "_law_table" ["_law_tape_here", "_law_signs_here", "_law_terms", "_law_height", "_law_great"] 4 (spTable K P w)
  poly : FnC P w K mg base "_law_poly" ["_law_table_here"] 1 (spPoly K P w)
  var : FnC P w K mg base "variable" ["name"] 1 (spVar K)
  varK : KBn K var.fd ["name"] 0 ["name"] g1 g1
  sums : FnC P w K mg base "_law_sums_right" ["_law_tape_here", "_law_p", "_law_q", "_law_r"] 5 (spSums K)
  prods : FnC P w K mg base "_law_products_right" ["_law_tape_here", "_law_p", "_law_q", "_law_r"] 6 (spSums K)
  pows : FnC P w K mg base "_law_powers_right" ["_law_tape_here", "_law_p", "_law_q"] 5 (spPowers K)
  nums : FnC P w K mg base "_law_numbers_right" ["_law_tape_here", "_law_signs_here", "_law_p", "_law_q"] 5 (spNumbers K)
  same : FnC P w K mg base "_law_same" ["_law_actual", "_law_due"] 5 (spSame K 4)
theorem nrm_bound {M : Nat} : ∀ {p : Poly}, (∀ t ∈ p, t.2.natAbs ≤ M) → nrm p ≤ p.length * M
  | [], _ => Nat.zero_le _
  | t :: p, h => by
    have h1 := nrm_bound fun s hs => h s (.tail _ hs)
    have h2 := h t (.head _)
    show t.2.natAbs + nrm p ≤ (p.length + 1) * M
    rw [Nat.succ_mul]
    omega
theorem table_dn {K : PySem.W.Frag} {S : List Str} {kvs : Poly} {n : Nat} {v : V} {H : Hp} (hn : (keys kvs).Nodup) (t : TOk S (10 ^ 40) kvs n) (h6 : n ≤ 6) (h : Dp K H v (encP (ofTable kvs))) : Dn K S (ofTable kvs) v H ∧ TD 5 (ofTable kvs) := by
  have hp := ofTable_perm hn
  have c := ofTable_canon hn t.mp t.nz
  refine ⟨⟨⟨_, h, c, .refl _⟩, c.mono, fun s hs => t.ov s (hp.mem_iff.mp hs), ?_, ?_⟩, fun s hs => t.td s (hp.mem_iff.mp hs)⟩
  · rw [hp.length_eq]; exact Nat.le_trans t.len h6
  · refine Nat.le_trans (nrm_bound (M := 10 ^ 40) fun s hs => t.co s (hp.mem_iff.mp hs)) ?_
    rw [hp.length_eq]
    exact Nat.mul_le_mul_right _ (Nat.le_trans t.len h6)
theorem Dn.dr {K : PySem.W.Frag} {T : Tp} {S : List Str} {p : Poly} {v : V} {H H' : Hp} (h : Dn K S p v H) (d : Dr K T H H') : Dn K S p v H' := ⟨h.res.keep d.2.1, h.gd⟩
theorem smp_var (x : Str) : Smp 4 (encP [([(x, 1)], 1)]) := by
  refine .tup 3 _ (by simp) fun i d hd => ?_
  cases i with
  | succ i => simp at hd
  | zero =>
    simp at hd
    subst hd
    refine .tup 2 _ (by simp) fun i d hd => ?_
    rcases i with _ | _ | i
    · simp at hd
      subst hd
      refine .tup 1 _ (by simp) fun i d hd => ?_
      cases i with
      | succ i => simp at hd
      | zero =>
        simp at hd
        subst hd
        refine .tup 0 _ (by simp) fun i d hd => ?_
        rcases i with _ | _ | i
        · simp at hd; subst hd; exact .str 0 _
        · simp at hd; subst hd; exact .int 0 _
        · simp at hd
    · simp at hd; subst hd; exact .int 2 _
    · simp at hd
section
variable {P : Program} {w : World} {K : PySem.W.Frag} {mg : Str → Option Value} {base : Heap} {f : Addr} {fd : FuncData}
def spLaw (K : PySem.W.Frag) : Sp := fun vs H Q _ => ∃ (a : Addr) (ns : List Int), vs = [.ref a] ∧ SqL K H a (ns.map V.int) ∧ ∀ H', Q (.bl true) H'
abbrev nLaw : List Str := ["_law_script", "_law_tape_here", "_law_signs_here", "_law_p", "_law_q", "_law_r", "_law_sign"]
theorem scLaw : FnScope nLaw ["_law_script"] (defScope (top 41)) := ⟨rfl, rfl, rfl, by decide +kernel, rfl, by decide +kernel, by decide +kernel⟩
theorem ok_law (F : FnP K "law" 41 f fd) (L : Lib3 P w K mg base) : FnOk P w K mg base CX0 7 f fd ["_law_script"] (spLaw K) := by
  have nd := scLaw.nd
  refine F.ok scLaw (fun vs H Q E h => ?_) (fun cdv A outer s H vs Q E hr h => ⟨_, PSs.nox (pss_cons (ps_set (i := 1) nd rfl (.inl rfl) (pe_call L.tape.ok (hr.mono (by decide)) (by rfl) L.tape.g L.tape.kp L.tape.b .nil pass0 (pa_cons (pv 0) pa_nil)))
    (pss_cons (ps_set (i := 2) nd rfl (.inl rfl) (pe_call L.signs.ok (hr.mono (by decide)) (by rfl) L.signs.g L.signs.kp L.signs.b .nil pass0 (pa_cons (pv 1) pa_nil)))
    (pss_cons (ps_set (i := 3) nd rfl (.inl rfl) (pe_call L.poly.ok (hr.mono (by decide)) (by rfl) L.poly.g L.poly.kp L.poly.b .nil pass0 (pa_cons (pe_call L.table.ok (hr.mono (by decide)) (by rfl) L.table.g L.table.kp L.table.b .nil pass0 (pa_cons (pv 1) (pa_cons (pv 2) (pa_cons pe_int (pa_cons pe_int (pa_cons (pe_op op_pow pe_int pe_int) pa_nil)))))) pa_nil)))
    (pss_cons (ps_set (i := 4) nd rfl (.inl rfl) (pe_call L.poly.ok (hr.mono (by decide)) (by rfl) L.poly.g L.poly.kp L.poly.b .nil pass0 (pa_cons (pe_call L.table.ok (hr.mono (by decide)) (by rfl) L.table.g L.table.kp L.table.b .nil pass0 (pa_cons (pv 1) (pa_cons (pv 2) (pa_cons pe_int (pa_cons pe_int (pa_cons (pe_op op_pow pe_int pe_int) pa_nil)))))) pa_nil)))
    (pss_cons (ps_set (i := 5) nd rfl (.inl rfl) (pe_call L.poly.ok (hr.mono (by decide)) (by rfl) L.poly.g L.poly.kp L.poly.b .nil pass0 (pa_cons (pe_call L.table.ok (hr.mono (by decide)) (by rfl) L.table.g L.table.kp L.table.b .nil pass0 (pa_cons (pv 1) (pa_cons (pv 2) (pa_cons pe_int (pa_cons pe_int (pa_cons (pe_op op_pow pe_int pe_int) pa_nil)))))) pa_nil)))
    (pss_cons (ps_for PassesOwn.never rfl (pi_seq (pv 2)) (pg_name (i := 6) nd rfl (.inl rfl))
      (pss_one (ps_if (PW.pt (pw_or (pt_not (pt_val (pe_call L.same.ok (hr.mono (by decide)) (by rfl) L.same.g L.same.kp L.same.b .nil pass0 (pa_cons (pe_call L.var.ok (hr.mono (by decide)) (by rfl) L.var.g L.var.kp L.var.b .nil pass0 (pa_cons (pv 6) pa_nil)) (pa_cons (pe_tup (pa_cons (pe_tup (pa_cons (pe_tup (pa_cons (pe_tup (pa_cons (pv 6) (pa_cons pe_int pa_nil))) pa_nil)) (pa_cons pe_int pa_nil))) pa_nil)) pa_nil)))))
          (pw_or1 (pt_not (pt_val (pe_call L.same.ok (hr.mono (by decide)) (by rfl) L.same.g L.same.kp L.same.b .nil pass0 (pa_cons (pe_callN0 (n := 0) L.var.ok (hr.mono (by decide)) (by rfl) L.var.g L.var.kp L.varK pass0 (pk_cons (pv 6) pk_nil)) (pa_cons (pe_call L.var.ok (hr.mono (by decide)) (by rfl) L.var.g L.var.kp L.var.b .nil pass0 (pa_cons (pv 6) pa_nil)) pa_nil)))))))) (pss_one (ps_ret pe_bl)) pss_nil)))
    (pss_cons (ps_if (PW.pt (pw_or (pt_not (pt_val (pe_call L.sums.ok (hr.mono (by decide)) (by rfl) L.sums.g L.sums.kp L.sums.b .nil pass0 (pa_cons (pv 1) (pa_cons (pv 3) (pa_cons (pv 4) (pa_cons (pv 5) pa_nil)))))))
        (pw_or1 (pt_not (pt_val (pe_call L.prods.ok hr (by rfl) L.prods.g L.prods.kp L.prods.b .nil pass0 (pa_cons (pv 1) (pa_cons (pv 3) (pa_cons (pv 4) (pa_cons (pv 5) pa_nil)))))))))) (pss_one (ps_ret pe_bl)) pss_nil)
    (pss_one (ps_ret (pe_and (pe_call L.pows.ok (hr.mono (by decide)) (by rfl) L.pows.g L.pows.kp L.pows.b .nil pass0 (pa_cons (pv 1) (pa_cons (pv 3) (pa_cons (pv 4) pa_nil)))) (pe_one (pe_call L.nums.ok (hr.mono (by decide)) (by rfl) L.nums.g L.nums.kp L.nums.b .nil pass0 (pa_cons (pv 1) (pa_cons (pv 2) (pa_cons (pv 3) (pa_cons (pv 4) pa_nil)))))))))))))))), ?_⟩)
  · obtain ⟨a, ns, rfl, _⟩ := h; rfl
  · obtain ⟨a, ns, rfl, hs, hq⟩ := h
    refine ⟨_, rfl, a, ns, rfl, hs, fun T H1 s1 hT t1 => ?_⟩
    refine ⟨_, rfl, T, rfl, t1, fun sl S H2 d2 hl2 l2 hS hS6 => ?_⟩
    have hS1 : S.length ≤ 1000 := by omega
    refine ⟨_, rfl, _, rfl, _, _, rfl, rfl, ⟨by decide, by decide, by decide⟩, T, sl, S, 6, 10 ^ 40, rfl, d2.2.2, SqX.of_l l2, hS, hS6, by decide, by decide, by decide, fun tb H3 k3 d3 n3 ok3 => ?_⟩
    refine ⟨tb, k3, rfl, n3, ok3.mp, ok3.nz, fun v3 H4 s4 dp4 => ?_⟩
    obtain ⟨P4, T4⟩ := table_dn n3.nodup ok3 (by decide) dp4
    have d4 := d3.same s4
    have l4 : SqL K H4 sl (S.map V.str) := sqL_keep d4.2.1 (SqX.of_l l2)
    refine ⟨_, rfl, _, rfl, _, _, rfl, rfl, ⟨by decide, by decide, by decide⟩, T, sl, S, 5, 10 ^ 40, rfl, d4.2.2, l4, hS, hS6, by decide, by decide, by decide, fun tb5 H5 k5 d5 n5 ok5 => ?_⟩
    refine ⟨tb5, k5, rfl, n5, ok5.mp, ok5.nz, fun v5 H6 s6 dp6 => ?_⟩
    obtain ⟨P6, T6⟩ := table_dn n5.nodup ok5 (by decide) dp6
    have d6 := d5.same s6
    have l6 : SqL K H6 sl (S.map V.str) := sqL_keep d6.2.1 l4
    refine ⟨_, rfl, _, rfl, _, _, rfl, rfl, ⟨by decide, by decide, by decide⟩, T, sl, S, 4, 10 ^ 40, rfl, d6.2.2, l6, hS, hS6, by decide, by decide, by decide, fun tb7 H7 k7 d7 n7 ok7 => ?_⟩
    refine ⟨tb7, k7, rfl, n7, ok7.mp, ok7.nz, fun v7 H8 s8 dp8 => ?_⟩
    obtain ⟨P8, T8⟩ := table_dn n7.nodup ok7 (by decide) dp8
    have d8 := d7.same s8
    have l8 : SqL K H8 sl (S.map V.str) := sqL_keep d8.2.1 l6
    have p8 := (P4.dr d6).dr d8
    have q8 := P6.dr d8
    refine ⟨_, rfl, sl, rfl, for_seq (.inl l8) (Keep.refl _) (fun i σ H' => ∃ x6, σ = [some (.ref a), some (.ref T.t), some (.ref sl), some v3, some v5, some v7, x6] ∧ Same H8 H') ?_ ?_ ?_ ?_⟩
    · exact fun _ => ⟨_, rfl, fun _ _ e => e⟩
    · rintro i σ H' ⟨x6, _, e⟩
      exact .of e
    · rintro i u σ H' hz hi hu ⟨x6, rfl, e⟩
      rw [List.getElem?_map] at hu
      obtain ⟨x, hx, rfl⟩ := Option.map_eq_some_iff.mp hu
      refine ⟨_, rfl, x, rfl, fun w1 H9 s9 dv1 => ?_⟩
      refine ⟨_, rfl, (by show 2 ≤ sizeLine; decide), fun a1 h1 => ⟨(by show 1 ≤ sizeLine; decide), fun a2 h2 => ⟨(by show 2 ≤ sizeLine; decide), fun a3 h3 => ⟨(by show 1 ≤ sizeLine; decide), fun a4 h4 => ?_⟩⟩⟩⟩
      have e1 := same_new (o := .tup [.str x, .int 1]) h1
      have e2 := same_new (o := .tup [.ref a1]) h2
      have e3 := same_new (o := .tup [.ref a2, .int 1]) h3
      have e4 := same_new (o := .tup [.ref a3]) h4
      refine ⟨w1, .ref a4, encP [([(x, 1)], 1)], rfl, dv1.same (e1.trans (e2.trans (e3.trans e4))), Dp.newTup upd_same (.cons ?_ .nil), smp_var x, true, rfl, ?_⟩
      · refine Dp.same (Dp.newTup (p := a3) (xs := [.ref a2, .int 1]) upd_same (.cons ?_ (.cons (.int _) .nil))) e4
        refine Dp.same (Dp.newTup (p := a2) (xs := [.ref a1]) upd_same (.cons ?_ .nil)) e3
        exact Dp.same (Dp.newTup (p := a1) (xs := [.str x, .int 1]) upd_same (.cons (.str _) (.cons (.int _) .nil))) e2
      refine ⟨_, rfl, rfl, rfl, x, rfl, fun w2 H10 s10 dv2 => ?_⟩
      refine ⟨_, rfl, x, rfl, fun w3 H11 s11 dv3 => ?_⟩
      refine ⟨w2, w3, _, rfl, dv2.same s11, dv3, smp_var x, true, rfl, ?_⟩
      exact ⟨_, rfl, (((e.trans s9).trans (e1.trans (e2.trans (e3.trans e4)))).trans s10).trans s11⟩
    · rintro σ H9 ⟨x6, rfl, e⟩
      have d9 : Dr K T H8 H9 := .of d8.2.2 e
      have p9 := p8.dr d9
      have q9 := q8.dr d9
      have r9 := P8.dr d9
      have l9 := sqL_keep d9.2.1 l8
      refine ⟨_, rfl, _, rfl, _, rfl, _, rfl, T, v3, v5, v7, S, _, _, _, rfl, d9.2.2, hS1, p9, q9, r9, fun H10 d10 => ⟨true, rfl, ?_⟩⟩
      refine ⟨_, rfl, _, rfl, _, rfl, _, rfl, T, v3, v5, v7, S, _, _, _, rfl, d10.2.2, hS1, p9.dr d10, q9.dr d10, r9.dr d10, fun H11 d11 => ⟨true, rfl, ?_⟩⟩
      refine ⟨_, rfl, _, rfl, _, rfl, T, v3, v5, S, _, _, rfl, d11.2.2, hS1, (p9.dr d10).dr d11, (q9.dr d10).dr d11, fun H12 d12 => ⟨true, rfl, ?_⟩⟩
      exact ⟨_, rfl, _, rfl, _, rfl, _, rfl, T, sl, v3, v5, S, _, _, rfl, d12.2.2, sqL_keep ((d10.trans d11).trans d12).2.1 l9, hS1, ((p9.dr d10).dr d11).dr d12, ((q9.dr d10).dr d11).dr d12, T4, T6, fun H13 _ => hq H13⟩
end
end K03
set_option Elab.async false
set_option linter.all false
set_option maxRecDepth 100000
set_option maxHeartbeats 0
/-! the end -/
namespace K03
open PySem PySem.Spec PyProof.Rows L2
theorem facts {P : Program} {w : World} {K : PySem.W.Frag} {h : Heap} {mg : Str → Option Value} {f : Addr} (X : K.In h) (G : h.Ns mainGlobals mg) (hfa : mg ("law" : Str) = some (.ref f)) (c : He.SaysD fa fn K) :
    ∃ fd : FuncData, (∀ (s : Shared) (v : Value), BindsTo s fd ⟨[v], []⟩ [("_law_script", v)]) ∧ ∀ base : Heap, K.In base → base.Ns mainGlobals mg → FnOk P w K mg base CX0 7 f fd ["_law_script"] (spLaw K) := by
  obtain ⟨fd_frozen, F_frozen⟩ := c.def_ 0 (d := defD "frozen" 7) rfl
  have g_frozen := He.glo_ok X G (c.fact 16 (f := .glo "frozen") rfl)
  have b_frozen := F_frozen.bindsN (ps := ["p"]) fun _ _ _ _ _ _ us hl => match us, hl with | [_], _ => rfl
  obtain ⟨fd_least_with, F_least_with⟩ := c.def_ 1 (d := defD "least_with" 8) rfl
  have g_least_with := He.glo_ok X G (c.fact 17 (f := .glo "least_with") rfl)
  have b_least_with := F_least_with.bindsN (ps := ["figures"]) fun _ _ _ _ _ _ us hl => match us, hl with | [_], _ => rfl
  obtain ⟨fd_is_great, F_is_great⟩ := c.def_ 2 (d := defD "is_great" 9) rfl
  have g_is_great := He.glo_ok X G (c.fact 18 (f := .glo "is_great") rfl)
  have b_is_great := F_is_great.bindsN (ps := ["number"]) fun _ _ _ _ _ _ us hl => match us, hl with | [_], _ => rfl
  obtain ⟨fd_checked, F_checked⟩ := c.def_ 3 (d := defD "checked" 10) rfl
  have g_checked := He.glo_ok X G (c.fact 19 (f := .glo "checked") rfl)
  have b_checked := F_checked.bindsN (ps := ["counts"]) fun _ _ _ _ _ _ us hl => match us, hl with | [_], _ => rfl
  obtain ⟨fd_counts_of, F_counts_of⟩ := c.def_ 4 (d := defD "counts_of" 11) rfl
  have g_counts_of := He.glo_ok X G (c.fact 20 (f := .glo "counts_of") rfl)
  have b_counts_of := F_counts_of.bindsN (ps := ["p"]) fun _ _ _ _ _ _ us hl => match us, hl with | [_], _ => rfl
  obtain ⟨fd_monomial_product, F_monomial_product⟩ := c.def_ 5 (d := defD "monomial_product" 12) rfl
  have g_monomial_product := He.glo_ok X G (c.fact 21 (f := .glo "monomial_product") rfl)
  have b_monomial_product := F_monomial_product.bindsN (ps := ["one", "other"]) fun _ _ _ _ _ _ us hl => match us, hl with | [_, _], _ => rfl
  obtain ⟨fd_add_times, F_add_times⟩ := c.def_ 6 (d := defD "add_times" 13) rfl
  have g_add_times := He.glo_ok X G (c.fact 22 (f := .glo "add_times") rfl)
  have b_add_times := F_add_times.bindsN (ps := ["counts", "other", "factor"]) fun _ _ _ _ _ _ us hl => match us, hl with | [_, _, _], _ => rfl
  obtain ⟨fd_counts_product, F_counts_product⟩ := c.def_ 7 (d := defD "counts_product" 14) rfl
  have g_counts_product := He.glo_ok X G (c.fact 23 (f := .glo "counts_product") rfl)
  have b_counts_product := F_counts_product.bindsN (ps := ["one", "other"]) fun _ _ _ _ _ _ us hl => match us, hl with | [_, _], _ => rfl
  obtain ⟨fd_counts_power, F_counts_power⟩ := c.def_ 8 (d := defD "counts_power" 15) rfl
  have g_counts_power := He.glo_ok X G (c.fact 24 (f := .glo "counts_power") rfl)
  have b_counts_power := F_counts_power.bindsN (ps := ["one", "k"]) fun _ _ _ _ _ _ us hl => match us, hl with | [_, _], _ => rfl
  obtain ⟨fd_constant, F_constant⟩ := c.def_ 9 (d := defD "constant" 16) rfl
  have g_constant := He.glo_ok X G (c.fact 25 (f := .glo "constant") rfl)
  have b_constant := F_constant.bindsN (ps := ["k"]) fun _ _ _ _ _ _ us hl => match us, hl with | [_], _ => rfl
  obtain ⟨fd_variable, F_variable⟩ := c.def_ 10 (d := defD "variable" 17) rfl
  have g_variable := He.glo_ok X G (c.fact 26 (f := .glo "variable") rfl)
  have b_variable := F_variable.bindsN (ps := ["name"]) fun _ _ _ _ _ _ us hl => match us, hl with | [_], _ => rfl
  obtain ⟨fd_added, F_added⟩ := c.def_ 11 (d := defD "added" 18) rfl
  have g_added := He.glo_ok X G (c.fact 27 (f := .glo "added") rfl)
  have b_added := F_added.bindsN (ps := ["p", "q"]) fun _ _ _ _ _ _ us hl => match us, hl with | [_, _], _ => rfl
  obtain ⟨fd_less, F_less⟩ := c.def_ 12 (d := defD "less" 19) rfl
  have g_less := He.glo_ok X G (c.fact 28 (f := .glo "less") rfl)
  have b_less := F_less.bindsN (ps := ["p", "q"]) fun _ _ _ _ _ _ us hl => match us, hl with | [_, _], _ => rfl
  obtain ⟨fd_multiplied, F_multiplied⟩ := c.def_ 13 (d := defD "multiplied" 20) rfl
  have g_multiplied := He.glo_ok X G (c.fact 29 (f := .glo "multiplied") rfl)
  have b_multiplied := F_multiplied.bindsN (ps := ["p", "q"]) fun _ _ _ _ _ _ us hl => match us, hl with | [_, _], _ => rfl
  obtain ⟨fd_power, F_power⟩ := c.def_ 14 (d := defD "power" 21) rfl
  have g_power := He.glo_ok X G (c.fact 30 (f := .glo "power") rfl)
  have b_power := F_power.bindsN (ps := ["p", "k"]) fun _ _ _ _ _ _ us hl => match us, hl with | [_, _], _ => rfl
  obtain ⟨fd_variables, F_variables⟩ := c.def_ 15 (d := defD "variables" 22) rfl
  have g_variables := He.glo_ok X G (c.fact 31 (f := .glo "variables") rfl)
  have b_variables := F_variables.bindsN (ps := ["p"]) fun _ _ _ _ _ _ us hl => match us, hl with | [_], _ => rfl
  obtain ⟨fd_degree_in, F_degree_in⟩ := c.def_ 16 (d := defD "degree_in" 23) rfl
  have g_degree_in := He.glo_ok X G (c.fact 32 (f := .glo "degree_in") rfl)
  have b_degree_in := F_degree_in.bindsN (ps := ["p", "variable"]) fun _ _ _ _ _ _ us hl => match us, hl with | [_, _], _ => rfl
  obtain ⟨fd_law_tape, F_law_tape⟩ := c.def_ 17 (d := defD "_law_tape" 25) rfl
  have g_law_tape := He.glo_ok X G (c.fact 33 (f := .glo "_law_tape") rfl)
  have b_law_tape := F_law_tape.bindsN (ps := ["_law_script"]) fun _ _ _ _ _ _ us hl => match us, hl with | [_], _ => rfl
  obtain ⟨fd_law_load, F_law_load⟩ := c.def_ 18 (d := defD "_law_load" 26) rfl
  have g_law_load := He.glo_ok X G (c.fact 34 (f := .glo "_law_load") rfl)
  have b_law_load := F_law_load.bindsN (ps := ["_law_tape_here"]) fun _ _ _ _ _ _ us hl => match us, hl with | [_], _ => rfl
  obtain ⟨fd_law_draw, F_law_draw⟩ := c.def_ 19 (d := defD "_law_draw" 27) rfl
  have g_law_draw := He.glo_ok X G (c.fact 35 (f := .glo "_law_draw") rfl)
  have b_law_draw := F_law_draw.bindsN (ps := ["_law_tape_here", "_law_many"]) fun _ _ _ _ _ _ us hl => match us, hl with | [_, _], _ => rfl
  obtain ⟨fd_law_same, F_law_same⟩ := c.def_ 20 (d := defD "_law_same" 28) rfl
  have g_law_same := He.glo_ok X G (c.fact 36 (f := .glo "_law_same") rfl)
  have b_law_same := F_law_same.bindsN (ps := ["_law_actual", "_law_due"]) fun _ _ _ _ _ _ us hl => match us, hl with | [_, _], _ => rfl
  obtain ⟨fd_law_signs, F_law_signs⟩ := c.def_ 21 (d := defD "_law_signs" 29) rfl
  have g_law_signs := He.glo_ok X G (c.fact 37 (f := .glo "_law_signs") rfl)
  have b_law_signs := F_law_signs.bindsN (ps := ["_law_tape_here"]) fun _ _ _ _ _ _ us hl => match us, hl with | [_], _ => rfl
  obtain ⟨fd_law_factor, F_law_factor⟩ := c.def_ 22 (d := defD "_law_factor" 30) rfl
  have g_law_factor := He.glo_ok X G (c.fact 38 (f := .glo "_law_factor") rfl)
  have b_law_factor := F_law_factor.bindsN (ps := ["_law_tape_here", "_law_great"]) fun _ _ _ _ _ _ us hl => match us, hl with | [_, _], _ => rfl
  obtain ⟨fd_law_table, F_law_table⟩ := c.def_ 23 (d := defD "_law_table" 31) rfl
  have g_law_table := He.glo_ok X G (c.fact 39 (f := .glo "_law_table") rfl)
  have b_law_table := F_law_table.bindsN (ps := ["_law_tape_here", "_law_signs_here", "_law_terms", "_law_height", "_law_great"]) fun _ _ _ _ _ _ us hl => match us, hl with | [_, _, _, _, _], _ => rfl
  obtain ⟨fd_law_poly, F_law_poly⟩ := c.def_ 24 (d := defD "_law_poly" 32) rfl
  have g_law_poly := He.glo_ok X G (c.fact 40 (f := .glo "_law_poly") rfl)
  have b_law_poly := F_law_poly.bindsN (ps := ["_law_table_here"]) fun _ _ _ _ _ _ us hl => match us, hl with | [_], _ => rfl
  obtain ⟨fd_law_handed, F_law_handed⟩ := c.def_ 25 (d := defD "_law_handed" 33) rfl
  have g_law_handed := He.glo_ok X G (c.fact 41 (f := .glo "_law_handed") rfl)
  have b_law_handed := F_law_handed.bindsN (ps := ["_law_tape_here", "_law_poly_here"]) fun _ _ _ _ _ _ us hl => match us, hl with | [_, _], _ => rfl
  obtain ⟨fd_law_is_poly, F_law_is_poly⟩ := c.def_ 26 (d := defD "_law_is_poly" 34) rfl
  have g_law_is_poly := He.glo_ok X G (c.fact 42 (f := .glo "_law_is_poly") rfl)
  have b_law_is_poly := F_law_is_poly.bindsN (ps := ["_law_thing"]) fun _ _ _ _ _ _ us hl => match us, hl with | [_], _ => rfl
  obtain ⟨fd_law_at, F_law_at⟩ := c.def_ 27 (d := defD "_law_at" 35) rfl
  have g_law_at := He.glo_ok X G (c.fact 43 (f := .glo "_law_at") rfl)
  have b_law_at := F_law_at.bindsN (ps := ["_law_poly_here", "_law_spot"]) fun _ _ _ _ _ _ us hl => match us, hl with | [_, _], _ => rfl
  obtain ⟨fd_law_alike, F_law_alike⟩ := c.def_ 28 (d := defD "_law_alike" 36) rfl
  have g_law_alike := He.glo_ok X G (c.fact 44 (f := .glo "_law_alike") rfl)
  have b_law_alike := F_law_alike.bindsN (ps := ["_law_one", "_law_two"]) fun _ _ _ _ _ _ us hl => match us, hl with | [_, _], _ => rfl
  obtain ⟨fd_law_sums_right, F_law_sums_right⟩ := c.def_ 29 (d := defD "_law_sums_right" 37) rfl
  have g_law_sums_right := He.glo_ok X G (c.fact 45 (f := .glo "_law_sums_right") rfl)
  have b_law_sums_right := F_law_sums_right.bindsN (ps := ["_law_tape_here", "_law_p", "_law_q", "_law_r"]) fun _ _ _ _ _ _ us hl => match us, hl with | [_, _, _, _], _ => rfl
  obtain ⟨fd_law_products_right, F_law_products_right⟩ := c.def_ 30 (d := defD "_law_products_right" 38) rfl
  have g_law_products_right := He.glo_ok X G (c.fact 46 (f := .glo "_law_products_right") rfl)
  have b_law_products_right := F_law_products_right.bindsN (ps := ["_law_tape_here", "_law_p", "_law_q", "_law_r"]) fun _ _ _ _ _ _ us hl => match us, hl with | [_, _, _, _], _ => rfl
  obtain ⟨fd_law_powers_right, F_law_powers_right⟩ := c.def_ 31 (d := defD "_law_powers_right" 39) rfl
  have g_law_powers_right := He.glo_ok X G (c.fact 47 (f := .glo "_law_powers_right") rfl)
  have b_law_powers_right := F_law_powers_right.bindsN (ps := ["_law_tape_here", "_law_p", "_law_q"]) fun _ _ _ _ _ _ us hl => match us, hl with | [_, _, _], _ => rfl
  obtain ⟨fd_law_numbers_right, F_law_numbers_right⟩ := c.def_ 32 (d := defD "_law_numbers_right" 40) rfl
  have g_law_numbers_right := He.glo_ok X G (c.fact 48 (f := .glo "_law_numbers_right") rfl)
  have b_law_numbers_right := F_law_numbers_right.bindsN (ps := ["_law_tape_here", "_law_signs_here", "_law_p", "_law_q"]) fun _ _ _ _ _ _ us hl => match us, hl with | [_, _, _, _], _ => rfl
  obtain ⟨fd_law, F_law⟩ := c.def_ 33 (d := defD "law" 41) rfl
  have g_law := He.glo_ok X G (c.fact 49 (f := .glo "law") rfl)
  have b_law := F_law.bindsN (ps := ["_law_script"]) fun _ _ _ _ _ _ us hl => match us, hl with | [_], _ => rfl
  have e_tuple := He.free_ok X G (c.fact 3 (f := .free "tuple") rfl)
  have e_range := He.free_ok X G (c.fact 4 (f := .free "range") rfl)
  have e_sorted := He.free_ok X G (c.fact 5 (f := .free "sorted") rfl)
  have e_len := He.free_ok X G (c.fact 6 (f := .free "len") rfl)
  have e_any := He.free_ok X G (c.fact 7 (f := .free "any") rfl)
  have e_abs := He.free_ok X G (c.fact 8 (f := .free "abs") rfl)
  have e_dict := He.free_ok X G (c.fact 9 (f := .free "dict") rfl)
  have e_list := He.free_ok X G (c.fact 10 (f := .free "list") rfl)
  have e_max := He.free_ok X G (c.fact 11 (f := .free "max") rfl)
  have e_int := He.free_ok X G (c.fact 12 (f := .free "int") rfl)
  have e_isinstance := He.free_ok X G (c.fact 13 (f := .free "isinstance") rfl)
  have e_bool := He.free_ok X G (c.fact 14 (f := .free "bool") rfl)
  have e_str := He.free_ok X G (c.fact 15 (f := .free "str") rfl)
  obtain ⟨tM, i_M⟩ := He.int_ok X G (c.fact 0 (f := .int "MOST_TERMS" 2000) rfl)
  obtain ⟨tF, i_F⟩ := He.int_ok X G (c.fact 1 (f := .int "MOST_FIGURES" 200) rfl)
  obtain ⟨tP, i_P⟩ := He.int_ok X G (c.fact 2 (f := .int "PLAIN" 1000000000000) rfl)
  have e := hfa.symm.trans g_law
  cases e
  have bA := FunD.bindsA (ps := ["_law_script"]) F_law fun _ _ _ _ _ _ us hl => match us, hl with | [_], _ => rfl
  refine ⟨fd_law, fun s v => bA s [v] rfl, fun base _ _ => ?_⟩
  have o_frozen : FnOk P w K mg base CX0 1 _ fd_frozen ["p"] (spFrozen K) := ok_frozen F_frozen e_tuple
  have o_great : FnOk P w K mg base CX0 2 _ fd_is_great ["number"] spGreat := ok_great F_is_great F_least_with e_range g_least_with i_P i_F
  have o_checked : FnOk P w K mg base CX0 3 _ fd_checked ["counts"] (spChecked K P w) := ok_checked F_checked o_great b_is_great F_is_great.kp g_is_great e_tuple e_sorted e_len e_any e_abs i_M
  have o_counts : FnOk P w K mg base CX0 2 _ fd_counts_of ["p"] (spCountsOf K P w) := ok_countsOf F_counts_of o_frozen b_frozen F_frozen.kp g_frozen e_dict
  have o_mono : FnOk P w K mg base CX0 1 _ fd_monomial_product ["one", "other"] (spMono K) := ok_mono F_monomial_product e_tuple e_sorted e_dict
  have o_times : FnOk P w K mg base CX0 1 _ fd_add_times ["counts", "other", "factor"] (spAddTimes K P w) := ok_addTimes F_add_times
  have o_prod : FnOk P w K mg base CX0 2 _ fd_counts_product ["one", "other"] (spProd K P w) := ok_prod F_counts_product o_mono b_monomial_product F_monomial_product.kp g_monomial_product
  have o_pow : FnOk P w K mg base CX0 3 _ fd_counts_power ["one", "k"] (spPow K P w) := ok_pow F_counts_power o_prod b_counts_product F_counts_product.kp g_counts_product
  have o_draw : FnOk P w K mg base CX0 2 _ fd_law_draw ["_law_tape_here", "_law_many"] (spDraw K) := ok_draw F_law_draw (ok_load F_law_load e_int e_abs) b_law_load F_law_load.kp g_law_load e_int e_len e_range
  have o_factor : FnOk P w K mg base CX0 3 _ fd_law_factor ["_law_tape_here", "_law_great"] (spFactor K) := ok_factor F_law_factor o_draw b_law_draw F_law_draw.kp g_law_draw
  have L : Lib P w K mg base := {
    add := ⟨_, fd_added, ok_added F_added o_checked b_checked F_checked.kp g_checked o_counts b_counts_of F_counts_of.kp g_counts_of o_times b_add_times F_add_times.kp g_add_times, b_added, F_added.kp, g_added⟩
    addK := F_added.kbn (fun _ _ _ _ _ _ us ws h1 h2 => match us, ws, h1, h2 with | [], [_, _], _, _ => rfl) g10_rel
    less := ⟨_, fd_less, ok_less F_less o_checked b_checked F_checked.kp g_checked o_counts b_counts_of F_counts_of.kp g_counts_of o_times b_add_times F_add_times.kp g_add_times, b_less, F_less.kp, g_less⟩
    lessK := F_less.kbn (fun _ _ _ _ _ _ us ws h1 h2 => match us, ws, h1, h2 with | [], [_, _], _, _ => rfl) g10_rel
    mul := ⟨_, fd_multiplied, ok_mul F_multiplied o_checked b_checked F_checked.kp g_checked o_counts b_counts_of F_counts_of.kp g_counts_of o_prod b_counts_product F_counts_product.kp g_counts_product, b_multiplied, F_multiplied.kp, g_multiplied⟩
    mulK := F_multiplied.kbn (fun _ _ _ _ _ _ us ws h1 h2 => match us, ws, h1, h2 with | [], [_, _], _, _ => rfl) g10_rel
    con := ⟨_, fd_constant, ok_const F_constant o_checked b_checked F_checked.kp g_checked, b_constant, F_constant.kp, g_constant⟩
    conK := F_constant.kbn (fun _ _ _ _ _ _ us ws h1 h2 => match us, ws, h1, h2 with | [], [_], _, _ => rfl) g1_rel
    pow := ⟨_, fd_power, ok_power F_power o_checked b_checked F_checked.kp g_checked o_counts b_counts_of F_counts_of.kp g_counts_of o_pow b_counts_power F_counts_power.kp g_counts_power, b_power, F_power.kp, g_power⟩
    powK := F_power.kbn (fun _ _ _ _ _ _ us ws h1 h2 => match us, ws, h1, h2 with | [], [_, _], _, _ => rfl) g10_rel
    handed := ⟨_, fd_law_handed, ok_handed F_law_handed o_draw b_law_draw F_law_draw.kp g_law_draw e_list, b_law_handed, F_law_handed.kp, g_law_handed⟩
    alike := ⟨_, fd_law_alike, ok_alike F_law_alike (ok_is F_law_is_poly e_isinstance e_tuple e_len e_int e_bool e_str e_range) b_law_is_poly F_law_is_poly.kp g_law_is_poly, b_law_alike, F_law_alike.kp, g_law_alike⟩ }
  have dr : FnC P w K mg base "_law_draw" ["_law_tape_here", "_law_many"] 2 (spDraw K) := ⟨_, fd_law_draw, o_draw, b_law_draw, F_law_draw.kp, g_law_draw⟩
  have sm : FnC P w K mg base "_law_same" ["_law_actual", "_law_due"] 5 (spSame K 4) := ⟨_, fd_law_same, ok_same F_law_same e_isinstance e_tuple e_list e_int e_bool e_str e_len e_range b_law_same F_law_same.kp g_law_same 4, b_law_same, F_law_same.kp, g_law_same⟩
  have L2 : Lib2 P w K mg base := {
    vars := ⟨_, fd_variables, ok_vars F_variables e_tuple e_sorted e_list, b_variables, F_variables.kp, g_variables⟩
    deg := ⟨_, fd_degree_in, ok_deg F_degree_in e_max, b_degree_in, F_degree_in.kp, g_degree_in⟩
    degK := F_degree_in.kbn (fun _ _ _ _ _ _ us ws h1 h2 => match us, ws, h1, h2 with | [_], [_], _, _ => rfl) g1_rel
    same := sm }
  have L3 : Lib3 P w K mg base := {
    tape := ⟨_, fd_law_tape, ok_tape F_law_tape e_len e_int e_abs e_list, b_law_tape, F_law_tape.kp, g_law_tape⟩
    signs := ⟨_, fd_law_signs, ok_signs F_law_signs o_draw b_law_draw F_law_draw.kp g_law_draw e_range, b_law_signs, F_law_signs.kp, g_law_signs⟩
    table := ⟨_, fd_law_table, ok_table F_law_table o_draw b_law_draw F_law_draw.kp g_law_draw o_factor b_law_factor F_law_factor.kp g_law_factor e_range e_len e_tuple e_sorted e_list, b_law_table, F_law_table.kp, g_law_table⟩
    poly := ⟨_, fd_law_poly, ok_poly F_law_poly e_tuple e_sorted e_list, b_law_poly, F_law_poly.kp, g_law_poly⟩
    var := ⟨_, fd_variable, ok_var F_variable, b_variable, F_variable.kp, g_variable⟩
    varK := F_variable.kbn (fun _ _ _ _ _ _ us ws h1 h2 => match us, ws, h1, h2 with | [], [_], _, _ => rfl) g1_rel
    sums := ⟨_, fd_law_sums_right, ok_sums F_law_sums_right L, b_law_sums_right, F_law_sums_right.kp, g_law_sums_right⟩
    prods := ⟨_, fd_law_products_right, ok_prods F_law_products_right L L2 e_len e_list e_tuple e_sorted, b_law_products_right, F_law_products_right.kp, g_law_products_right⟩
    pows := ⟨_, fd_law_powers_right, ok_pows F_law_powers_right L dr, b_law_powers_right, F_law_powers_right.kp, g_law_powers_right⟩
    nums := ⟨_, fd_law_numbers_right, ok_nums F_law_numbers_right L dr ⟨_, fd_law_at, ok_at F_law_at e_range, b_law_at, F_law_at.kp, g_law_at⟩ e_range, b_law_numbers_right, F_law_numbers_right.kp, g_law_numbers_right⟩
    same := sm }
  exact ok_law F_law L3
end K03
set_option Elab.async false
set_option linter.all false
set_option maxRecDepth 100000
set_option maxHeartbeats 0
open PySem PySem.W PySem.Calls PyProof.Rows
theorem PySem.Challenge.cw_figurehold_k03_whole_ring_holds : PySem.Challenge.rw_figurehold_k03_whole_ring.Holds := by
  w_on; o_law
  refine HandSHeadRun.head_any (r := OpenLaw.row PySem.Challenge.rw_figurehold_k03_whole_ring) (q := view (OpenLaw.row PySem.Challenge.rw_figurehold_k03_whole_ring).prog [41]) (H := K03.hk) (ob := K03.ob) (M := 4000) (loose := K03.loose) (d := HandSHeadRun.topDef (OpenLaw.row PySem.Challenge.rw_figurehold_k03_whole_ring).prog 41) (kwd := []) K03.ob_eq
    (by kernel_rfl) (fun s => by kernel_rfl) K03.run (by kernel_rfl) (by kernel_rfl) (by kernel_rfl) (by rfl) (by first | assumption | decide +kernel) (by decide +kernel) ⟨rfl, rfl, rfl, rfl, rfl, by decide +kernel⟩ ?hw ?hc
  case hw => w_witness2
  case hc =>
    refine L2.walk_ofE (l := PySem.Challenge.rw_figurehold_k03_whole_ring) (n := 63) (k := 7) (x := "_law_script") (CX := L2.CX0) rfl (by decide) (by kernel_rfl) ⟨rfl, by decide, by decide⟩ ?F (fun _ _ _ _ z => z)
    intro w mg fa h Y G hmg0
    obtain ⟨K, KX, c⟩ := Y
    have hmg : mg ("law" : PySem.Str) = some (.ref fa) := by
      have e : (HandSHeadRun.topDef (OpenLaw.row PySem.Challenge.rw_figurehold_k03_whole_ring).prog 41).name = ("law" : PySem.Str) := by kernel_rfl
      rw [← e]
      exact hmg0
    obtain ⟨fd, hb, hF⟩ := K03.facts (P := (PySem.Challenge.rw_figurehold_k03_whole_ring).prog) (w := w) KX G hmg c
    exact ⟨K, fd, K03.spLaw K, KX, hb, fun H a ns hl _ hS => ⟨a, ns, rfl, hS, fun _ => rfl⟩, hF⟩
